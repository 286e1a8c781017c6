import PyProof.Rows.All
import Wide.All
import OpenK.AllK
import Wide.FinOn
import HandS.ForMost
import HandS.Wide
import KE.KDictKeyed
import KE.KDictWalk
import HandS.Gcd
import HandS.IsInst
import HandS.Deep
import HandS.Style
import HandS.Zip
import HandS.Dict
import KE.KDictSum
import HandS.DictComp
import KE.GoesZip
import KE.GoesMore
import KE.KDictZip
import HandS.RevTup
import HandS.Rev
import KE.GoesEnum
import KE.DataMinMax
import KE.SortData
import HandS.Iter
import HandS.Star
import PyProof.AutoSeq1
import PyProof.SumAny
import HandS.TupAny
import PySem.Challenge.RW_foursteps_k68_across_lines_of_products
set_option Elab.async false
set_option linter.all false
set_option maxRecDepth 100000
set_option maxHeartbeats 2000000
set_option autoImplicit false
/-! # The layer Fs: a def's body computes a plain function over data -/
namespace Fs
open PySem PySem.Spec PyProof.Rows L2

abbrev D := PyData

/-! ### computations: a result, none, or one number drawn below n -/
inductive Cm (α : Type) where
  | ret (a : α)
  | bad
  | ask (n : Nat) (k : Nat → Cm α)
  | anyI (k : Int → Cm α)
namespace Cm
variable {α β γ : Type}
def bind : Cm α → (α → Cm β) → Cm β
  | .ret a, f => f a
  | .bad, _ => .bad
  | .ask n k, f => .ask n fun r => bind (k r) f
  | .anyI k, f => .anyI fun r => bind (k r) f
def All (P : α → Prop) : Cm α → Prop
  | .ret a => P a
  | .bad => False
  | .ask n k => ∀ r, r < n → All P (k r)
  | .anyI k => ∀ r, All P (k r)
@[simp] theorem ret_bind (a : α) (f : α → Cm β) : (Cm.ret a).bind f = f a := rfl
@[simp] theorem bad_bind (f : α → Cm β) : (Cm.bad : Cm α).bind f = .bad := rfl
@[simp] theorem ask_bind (n : Nat) (k : Nat → Cm α) (f : α → Cm β) : (Cm.ask n k).bind f = .ask n fun r => (k r).bind f := rfl
@[simp] theorem all_ret (P : α → Prop) (a : α) : (Cm.ret a).All P = P a := rfl
@[simp] theorem all_bad (P : α → Prop) : (Cm.bad : Cm α).All P = False := rfl
@[simp] theorem all_ask (P : α → Prop) (n : Nat) (k : Nat → Cm α) : (Cm.ask n k).All P = ∀ r, r < n → (k r).All P := rfl
theorem All.mono {P Q : α → Prop} (h : ∀ a, P a → Q a) : ∀ {m : Cm α}, m.All P → m.All Q
  | .ret _, p => h _ p
  | .bad, p => p
  | .ask _ _, p => fun r hr => All.mono h (p r hr)
  | .anyI _, p => fun r => All.mono h (p r)
theorem all_bind {P : β → Prop} {f : α → Cm β} : ∀ {m : Cm α}, (m.bind f).All P ↔ m.All fun a => (f a).All P
  | .ret _ => Iff.rfl
  | .bad => Iff.rfl
  | .ask _ _ => ⟨fun h r hr => all_bind.mp (h r hr), fun h r hr => all_bind.mpr (h r hr)⟩
  | .anyI _ => ⟨fun h r => all_bind.mp (h r), fun h r => all_bind.mpr (h r)⟩
theorem bind_assoc (f : α → Cm β) (g : β → Cm γ) : ∀ m : Cm α, (m.bind f).bind g = m.bind fun a => (f a).bind g
  | .ret _ => rfl
  | .bad => rfl
  | .ask n k => congrArg (Cm.ask n) (funext fun r => bind_assoc f g (k r))
  | .anyI k => congrArg Cm.anyI (funext fun r => bind_assoc f g (k r))
@[simp] theorem bind_ret : ∀ m : Cm α, m.bind .ret = m
  | .ret _ => rfl
  | .bad => rfl
  | .ask n k => congrArg (Cm.ask n) (funext fun r => bind_ret (k r))
  | .anyI k => congrArg Cm.anyI (funext fun r => bind_ret (k r))
end Cm

/-! ### slots -/
inductive Slot where
  | no
  | val (d : D)
  | own (d : D)
abbrev Env := List Slot
abbrev DE := Env → Cm D
abbrev DEs := Env → Cm (List D)
abbrev DT := Env → Cm Bool
/-- the draws' object, as data -/
def drwT : D := .dict [(.none, .none)]

/-! ### the draws' objects -/
structure Dr where
  a : Addr
  l : Addr
  c : Addr
def Dr.has (dr : Dr) (x : Addr) : Prop := x = dr.a ∨ x = dr.l ∨ x = dr.c
def DrawOk (dr : Dr) (H : Hp) : Prop := ∃ (large cells : List Int) (rest turn : Int),
  H dr.a = some (.dK [(Sum.inr "large", .ref dr.l), (Sum.inr "rest", .int rest), (Sum.inr "cells", .ref dr.c), (Sum.inr "turn", .int turn)]) ∧
  H dr.l = some (.lst (large.map V.int)) ∧ H dr.c = some (.lst (cells.map V.int)) ∧ dr.l ≠ dr.c

/-! ### data that stand in a part F of the heap -/
theorem rd_up {F F' : Hp} (h : ∀ a o, F a = some o → F' a = some o) {a : Addr} {u : HO} (r : Rd F a u) : Rd F' a u := by
  rcases r with r | ⟨o, r⟩
  · exact .inl (h _ _ r)
  · exact .inr ⟨o, h _ _ r⟩
theorem sql_up {K : PySem.W.Frag} {F F' : Hp} (h : ∀ a o, F a = some o → F' a = some o) {a : Addr} {xs : List V} (r : SqL K F a xs) : SqL K F' a xs := by
  rcases r with r | r
  · exact .inl (rd_up h r)
  · exact .inr r
theorem sqt_up {K : PySem.W.Frag} {F F' : Hp} (h : ∀ a o, F a = some o → F' a = some o) {a : Addr} {xs : List V} (r : SqT K F a xs) : SqT K F' a xs := by
  rcases r with r | r
  · exact .inl (rd_up h r)
  · exact .inr r
mutual
theorem dp_up {K : PySem.W.Frag} {F F' : Hp} (h : ∀ a o, F a = some o → F' a = some o) : ∀ (d : PyData) (v : V), Dp K F v d → Dp K F' v d
  | .none, _, r => by cases r; exact .non
  | .bool b, _, r => by cases r; exact .bl b
  | .int i, _, r => by cases r; exact .int i
  | .str x, _, r => by cases r; exact .str x
  | .list ds, _, r => by
    cases r with
    | lst hs ha => exact .lst (sql_up h hs) (dpa_up h ds _ ha)
  | .tuple ds, _, r => by
    cases r with
    | tup hs ha => exact .tup (sqt_up h hs) (dpa_up h ds _ ha)
  | .dict _, _, r => by cases r
theorem dpa_up {K : PySem.W.Frag} {F F' : Hp} (h : ∀ a o, F a = some o → F' a = some o) : ∀ (ds : List PyData) (vs : List V), DpAll K F vs ds → DpAll K F' vs ds
  | [], _, r => by cases r; exact .nil
  | d :: ds, _, r => by
    cases r with
    | cons h1 h2 => exact .cons (dp_up h d _ h1) (dpa_up h ds _ h2)
end
theorem dpa_len {K : PySem.W.Frag} {F : Hp} : ∀ {vs : List V} {ds : List PyData}, DpAll K F vs ds → vs.length = ds.length
  | _, _, .nil => rfl
  | _, _, .cons _ t => congrArg (· + 1) (dpa_len t)
theorem dpa_get {K : PySem.W.Frag} {F : Hp} : ∀ {vs : List V} {ds : List PyData} {i : Nat} {d : PyData}, DpAll K F vs ds → ds[i]? = some d → ∃ v, vs[i]? = some v ∧ Dp K F v d
  | _, _, _, _, .nil, e => by simp at e
  | _, _, 0, _, .cons r _, e => by simp at e; subst e; exact ⟨_, rfl, r⟩
  | _, _, i + 1, d, .cons _ t, e => by
    obtain ⟨v, h1, h2⟩ := dpa_get (i := i) (d := d) t (by simpa using e)
    exact ⟨v, by simpa using h1, h2⟩
theorem dpa_getV {K : PySem.W.Frag} {F : Hp} : ∀ {vs : List V} {ds : List PyData} {i : Nat} {v : V}, DpAll K F vs ds → vs[i]? = some v → ∃ d, ds[i]? = some d ∧ Dp K F v d
  | _, _, _, _, .nil, e => by simp at e
  | _, _, 0, _, .cons r _, e => by simp at e; subst e; exact ⟨_, rfl, r⟩
  | _, _, i + 1, d, .cons _ t, e => by
    obtain ⟨v, h1, h2⟩ := dpa_getV (i := i) (v := d) t (by simpa using e)
    exact ⟨v, by simpa using h1, h2⟩
theorem dpa_app {K : PySem.W.Frag} {F : Hp} : ∀ {vs ws : List V} {ds es : List PyData}, DpAll K F vs ds → DpAll K F ws es → DpAll K F (vs ++ ws) (ds ++ es)
  | _, _, _, _, .nil, h => h
  | _, _, _, _, .cons r t, h => .cons r (dpa_app t h)

/-! ### keys that are tuples of whole numbers, or of such tuples -/
mutual
def tkI : D → Bool
  | .int _ => true
  | .tuple ds => tkIs ds
  | _ => false
def tkIs : List D → Bool
  | [] => true
  | d :: ds => tkI d && tkIs ds
end
mutual
def nk : D → NestedKey
  | .int i => .num i
  | .tuple ds => .tup (nks ds)
  | _ => .none
def nks : List D → List NestedKey
  | [] => []
  | d :: ds => nk d :: nks ds
end
mutual
/-- hash(k), no texts in it -/
def hash0 : NestedKey → Int
  | .none => reduceHash 0xFCA86420
  | .num i => hashInt i
  | .text _ => 0
  | .tup ks => reduceHash (Builtin.Tuple.tupleHashOf (hashes0 ks))
def hashes0 : List NestedKey → List Int
  | [] => []
  | k :: ks => hash0 k :: hashes0 ks
end
def isTup : D → Bool
  | .tuple _ => true
  | _ => false
def isTK (d : D) : Bool := isTup d && tkI d && decide ((nk d).depth ≤ 8)
abbrev Ent := NestedKey × Addr × Value
def entOf (x : Ent) : DictEntry := ⟨hash0 x.1, .ref x.2.1, x.2.2⟩
/-- the very object -/
def XO (p : Addr) (o : Obj) : HO := .ext fun h => h.get? p = some o
def EntOk (K : PySem.W.Frag) (F : Hp) (x : Ent) (y : D × D) : Prop := isTK y.1 = true ∧ nk y.1 = x.1 ∧ Dp K F (.ref x.2.1) y.1 ∧ ∃ v, RelV v x.2.2 ∧ Dp K F v y.2
/-- a dict whose keys are tuples stands at p -/
structure KeyAt (K : PySem.W.Frag) (F H : Hp) (p : Addr) (kvs : List (D × D)) (xs : List Ent) (o : Obj) (ep : Nat) : Prop where
  ne : kvs ≠ []
  mods : (p == sysModules) = false
  at' : H p = some (XO p o)
  ex : o.ExactDict
  dat : o.data = .dict (xs.map entOf).toArray ep
  nodup : (xs.map (·.1)).Nodup
  ents : Paired (EntOk K F) xs kvs
/-- a list or a dict of the body's own, that it may change -/
def OwnAt (K : PySem.W.Frag) (F H : Hp) (p : Addr) : D → Prop
  | .list ds => ∃ vs, H p = some (.lst vs) ∧ DpAll K F vs ds
  | .dict kvs => (∃ ks : List (Key × V), H p = some (.dK ks) ∧ Paired (fun (x : Key × V) (y : D × D) => Dp K F (kV x.1) y.1 ∧ Dp K F x.2 y.2) ks kvs) ∨ ∃ xs o ep, KeyAt K F H p kvs xs o ep
  | _ => False
theorem paired_mono {α β : Type} {R S : α → β → Prop} (h : ∀ a b, R a b → S a b) : ∀ {xs : List α} {ys : List β}, Paired R xs ys → Paired S xs ys
  | _, _, .nil => .nil
  | _, _, .cons r t => .cons (h _ _ r) (paired_mono h t)
theorem EntOk.up {K : PySem.W.Frag} {F F' : Hp} (h : ∀ a o, F a = some o → F' a = some o) {x : Ent} {y : D × D} (r : EntOk K F x y) : EntOk K F' x y := by
  obtain ⟨a, b, c, v, e, d⟩ := r
  exact ⟨a, b, dp_up h _ _ c, v, e, dp_up h _ _ d⟩
theorem KeyAt.mono {K : PySem.W.Frag} {F H F' H' : Hp} {p : Addr} {kvs : List (D × D)} {xs : List Ent} {o : Obj} {ep : Nat} (hF : ∀ a o, F a = some o → F' a = some o) (hp : ∀ o, H p = some o → H' p = some o) (r : KeyAt K F H p kvs xs o ep) : KeyAt K F' H' p kvs xs o ep :=
  ⟨r.ne, r.mods, hp _ r.at', r.ex, r.dat, r.nodup, paired_mono (fun _ _ q => q.up hF) r.ents⟩
theorem OwnAt.mono {K : PySem.W.Frag} {F H F' H' : Hp} {p : Addr} (hF : ∀ a o, F a = some o → F' a = some o) (hp : ∀ o, H p = some o → H' p = some o) {d : D} (h : OwnAt K F H p d) : OwnAt K F' H' p d := by
  cases d with
  | list ds => obtain ⟨vs, e, r⟩ := h; exact ⟨vs, hp _ e, dpa_up hF _ _ r⟩
  | dict kvs =>
    rcases h with ⟨vs, e, r⟩ | ⟨xs, o, ep, r⟩
    · exact .inl ⟨vs, hp _ e, paired_mono (fun _ _ q => ⟨dp_up hF _ _ q.1, dp_up hF _ _ q.2⟩) r⟩
    · exact .inr ⟨xs, o, ep, r.mono hF hp⟩
  | none => exact h
  | bool _ => exact h
  | int _ => exact h
  | str _ => exact h
  | tuple _ => exact h
theorem OwnAt.at {K : PySem.W.Frag} {F H H' : Hp} {p : Addr} {d : D} (hp : H' p = H p) (h : OwnAt K F H p d) : OwnAt K F H' p d := h.mono (fun _ _ e => e) fun _ e => hp.trans e

inductive Rp (K : PySem.W.Frag) (dr : Dr) (F : Hp) : V → D → Prop where
  | dp {v : V} {d : D} : Dp K F v d → Rp K dr F v d
  | drw : Rp K dr F (.ref dr.a) drwT
  | dct {p : Addr} {kvs : List (D × D)} : OwnAt K F F p (.dict kvs) → Rp K dr F (.ref p) (.dict kvs)
theorem Rp.up {K : PySem.W.Frag} {dr : Dr} {F F' : Hp} {v : V} {d : D} (h : ∀ a o, F a = some o → F' a = some o) (r : Rp K dr F v d) : Rp K dr F' v d := by
  cases r with
  | dp r => exact .dp (dp_up h _ _ r)
  | drw => exact .drw
  | dct o => exact .dct (o.mono h (h _))
structure Stt (dr : Dr) (F H : Hp) : Prop where
  sub : ∀ a o, F a = some o → H a = some o
  drw : DrawOk dr H
  nodr : ∀ a, dr.has a → F a = none
structure Step (dr : Dr) (F H F' H' : Hp) : Prop where
  up : ∀ a o, F a = some o → F' a = some o
  keep : ∀ a o, ¬ dr.has a → H a = some o → H' a = some o
  new : ∀ a o, F' a = some o → F a = some o ∨ H a = none
theorem Step.refl {dr : Dr} {F H : Hp} : Step dr F H F H := ⟨fun _ _ h => h, fun _ _ _ h => h, fun _ _ h => .inl h⟩
theorem Step.trans {dr : Dr} {F H F1 H1 F2 H2 : Hp} (a : Step dr F H F1 H1) (b : Step dr F1 H1 F2 H2) (s : Stt dr F2 H2) : Step dr F H F2 H2 where
  up := fun x o h => b.up x o (a.up x o h)
  keep := fun x o n h => b.keep x o n (a.keep x o n h)
  new := fun x o h => by
    rcases b.new x o h with h1 | h1
    · exact a.new x o h1
    · right
      have nd : ¬ dr.has x := fun z => by rw [s.nodr x z] at h; cases h
      cases q : H x with
      | none => rfl
      | some u => rw [a.keep x u nd q] at h1; cases h1
inductive Bp (K : PySem.W.Frag) (dr : Dr) (F H : Hp) : V → D → Prop where
  | r {v : V} {d : D} : Rp K dr F v d → Bp K dr F H v d
  | own {p : Addr} {d : D} : F p = none → ¬ dr.has p → OwnAt K F H p d → Bp K dr F H (.ref p) d
theorem OwnAt.step {K : PySem.W.Frag} {dr : Dr} {F H F' H' : Hp} {p : Addr} {d : D} (S : Step dr F H F' H') (nd : ¬ dr.has p) (h : OwnAt K F H p d) : OwnAt K F' H' p d := h.mono S.up fun _ e => S.keep _ _ nd e
theorem OwnAt.there {K : PySem.W.Frag} {F H : Hp} {p : Addr} {d : D} (h : OwnAt K F H p d) : ∃ o, H p = some o := by
  cases d with
  | list ds => obtain ⟨vs, e, r⟩ := h; exact ⟨_, e⟩
  | dict kvs =>
    rcases h with ⟨vs, e, r⟩ | ⟨xs, o, ep, r⟩
    · exact ⟨_, e⟩
    · exact ⟨_, r.at'⟩
  | none => exact h.elim
  | bool _ => exact h.elim
  | int _ => exact h.elim
  | str _ => exact h.elim
  | tuple _ => exact h.elim
theorem Step.still {dr : Dr} {F H F' H' : Hp} {p : Addr} {o : HO} (S : Step dr F H F' H') (f : F p = none) (h : H p = some o) : F' p = none := by
  cases q : F' p with
  | none => rfl
  | some u =>
    rcases S.new p u q with z | z
    · rw [f] at z; cases z
    · rw [h] at z; cases z
theorem Bp.step {K : PySem.W.Frag} {dr : Dr} {F H F' H' : Hp} {v : V} {d : D} (S : Step dr F H F' H') (h : Bp K dr F H v d) : Bp K dr F' H' v d := by
  cases h with
  | r h => exact .r (h.up S.up)
  | own f n o =>
    obtain ⟨u, e⟩ := o.there
    exact .own (S.still f e) n (o.step S n)

/-! ### slots and their data -/
def SlotOk (K : PySem.W.Frag) (dr : Dr) (B F H : Hp) (o : Option V) : Slot → Prop
  | .no => True
  | .val d => ∃ v, o = some v ∧ Rp K dr F v d
  | .own d => ∃ p, o = some (.ref p) ∧ B p = none ∧ F p = none ∧ ¬ dr.has p ∧ OwnAt K F H p d
structure Rs (K : PySem.W.Frag) (dr : Dr) (B F H : Hp) (σ : L2.St) (env : Env) : Prop where
  len : σ.length = env.length
  ok : ∀ (i : Nat) (s : Slot), env[i]? = some s → ∃ o, σ[i]? = some o ∧ SlotOk K dr B F H o s
  apart : ∀ (i j : Nat) (p : Addr) (d e : D), env[i]? = some (.own d) → env[j]? = some (.own e) → σ[i]? = some (some (.ref p)) → σ[j]? = some (some (.ref p)) → i = j
theorem SlotOk.step {K : PySem.W.Frag} {dr : Dr} {B F H F' H' : Hp} {o : Option V} {s : Slot} (S : Step dr F H F' H') (h : SlotOk K dr B F H o s) : SlotOk K dr B F' H' o s := by
  cases s with
  | no => trivial
  | val d => obtain ⟨v, e, r⟩ := h; exact ⟨v, e, r.up S.up⟩
  | own d =>
    obtain ⟨p, e, b, f, n, r⟩ := h
    obtain ⟨u, q⟩ := r.there
    exact ⟨p, e, b, S.still f q, n, r.step S n⟩
theorem Rs.step {K : PySem.W.Frag} {dr : Dr} {B F H F' H' : Hp} {σ : L2.St} {env : Env} (S : Step dr F H F' H') (h : Rs K dr B F H σ env) : Rs K dr B F' H' σ env :=
  ⟨h.len, fun i s e => let ⟨o, a, b⟩ := h.ok i s e; ⟨o, a, b.step S⟩, h.apart⟩

/-! ### readings -/
def tE (K : PySem.W.Frag) (f : DE) : TE := fun σ H Q => ∃ dr B F env, Stt dr F H ∧ Rs K dr B F H σ env ∧
  (f env).All fun d => ∀ v F' H', Step dr F H F' H' → Stt dr F' H' → Rp K dr F' v d → Q v H'
/-- .. the value may be an own list, looked at -/
def tB (K : PySem.W.Frag) (f : DE) : TE := fun σ H Q => ∃ dr B F env, Stt dr F H ∧ Rs K dr B F H σ env ∧
  (f env).All fun d => ∀ v F' H', Step dr F H F' H' → Stt dr F' H' → Bp K dr F' H' v d → Q v H'
def tT (K : PySem.W.Frag) (f : DT) : TT := fun σ H Q => ∃ dr B F env, Stt dr F H ∧ Rs K dr B F H σ env ∧
  (f env).All fun b => ∀ F' H', Step dr F H F' H' → Stt dr F' H' → Q b H'
def tA (K : PySem.W.Frag) (f : DEs) : TA := fun σ H Q => ∃ dr B F env, Stt dr F H ∧ Rs K dr B F H σ env ∧
  (f env).All fun ds => ∀ vs F' H', Step dr F H F' H' → Stt dr F' H' → Paired (Rp K dr F') vs ds → Q vs H'
def tAb (K : PySem.W.Frag) (f : DEs) : TA := fun σ H Q => ∃ dr B F env, Stt dr F H ∧ Rs K dr B F H σ env ∧
  (f env).All fun ds => ∀ vs F' H', Step dr F H F' H' → Stt dr F' H' → Paired (Bp K dr F' H') vs ds → Q vs H'
theorem pe_imp {X : Cx} {e : Expr} {t t' : TE} (h : PE X e t) (i : ∀ σ H Q, t' σ H Q → t σ H Q) : PE X e t' := ⟨fun p s σ H Q I q => h.run p s σ H Q I (i _ _ _ q)⟩
theorem pt_imp {X : Cx} {e : Expr} {t t' : TT} (h : PT X e t) (i : ∀ σ H Q, t' σ H Q → t σ H Q) : PT X e t' := ⟨fun p s σ H Q I q => h.run p s σ H Q I (i _ _ _ q)⟩
theorem pw_imp {X : Cx} {e : Expr} {t t' : TT} (h : PW X e t) (i : ∀ σ H Q, t' σ H Q → t σ H Q) : PW X e t' := ⟨fun w p s σ H Q I q => h.run w p s σ H Q I (i _ _ _ q)⟩
theorem pa_imp {X : Cx} {e : List Expr} {t t' : TA} (h : PA X e t) (i : ∀ σ H Q, t' σ H Q → t σ H Q) : PA X e t' := ⟨fun x p s σ H Q I q => h.run x p s σ H Q I (i _ _ _ q)⟩
theorem ps_imp {X : Cx} {e : Stmt} {t t' : TS} (h : PS X e t) (i : ∀ D σ H, t' D σ H → t D σ H) : PS X e t' := ⟨fun p s σ H D I q => h.run p s σ H D I (i _ _ _ q)⟩
theorem pss_imp {X : Cx} {e : List Stmt} {t t' : TS} (h : PSs X e t) (i : ∀ D σ H, t' D σ H → t D σ H) : PSs X e t' := ⟨fun p s σ H D I q => h.run p s σ H D I (i _ _ _ q)⟩

section
variable {X : Cx} {e a b c : Expr} {f f1 f2 f3 : DE} {pos : Pos}
/-- what is not an own list may be looked at -/
theorem e_b (h : PE X e (tE X.K f)) : PE X e (tB X.K f) := pe_imp h fun σ H Q ⟨dr, B, F, env, s, r, q⟩ =>
  ⟨dr, B, F, env, s, r, Cm.All.mono (fun d k v F' H' S T z => k v F' H' S T (.r z)) q⟩

/-! ### names, constants -/
def dVar (i : Nat) : DE := fun env => match env[i]? with
  | some (.val d) => .ret d
  | _ => .bad
def dPeek (i : Nat) : DE := fun env => match env[i]? with
  | some (.val d) => .ret d
  | some (.own d) => .ret d
  | _ => .bad
def dCst (d : D) : DE := fun _ => .ret d
theorem e_var {i : Nat} (h : PE X e (tVar i)) : PE X e (tE X.K (dVar i)) := pe_imp h fun σ H Q ⟨dr, B, F, env, s, r, q⟩ => by
  unfold dVar at q
  split at q
  · rename_i d hd
    obtain ⟨o, ho, v, hv, rv⟩ := r.ok i _ hd
    subst hv
    exact ⟨v, ho, q v F H .refl s rv⟩
  · exact q.elim
theorem b_var {i : Nat} (h : PE X e (tVar i)) : PE X e (tB X.K (dPeek i)) := pe_imp h fun σ H Q ⟨dr, B, F, env, s, r, q⟩ => by
  unfold dPeek at q
  split at q
  · rename_i d hd
    obtain ⟨o, ho, v, hv, rv⟩ := r.ok i _ hd
    subst hv
    exact ⟨v, ho, q v F H .refl s (.r rv)⟩
  · rename_i d hd
    obtain ⟨o, ho, p, hv, hb, hf, hn, rv⟩ := r.ok i _ hd
    subst hv
    exact ⟨_, ho, q _ F H .refl s (.own hf hn rv)⟩
  · exact q.elim
theorem e_int {i : Int} {j : Nat} : PE X (.Constant (.int i) j pos) (tE X.K (dCst (.int i))) := pe_imp pe_int fun σ H Q ⟨dr, B, F, env, s, r, q⟩ => q _ F H .refl s (.dp (.int i))
theorem e_bl {i : Bool} {j : Nat} : PE X (.Constant (.bool i) j pos) (tE X.K (dCst (.bool i))) := pe_imp pe_bl fun σ H Q ⟨dr, B, F, env, s, r, q⟩ => q _ F H .refl s (.dp (.bl i))
theorem e_non {j : Nat} : PE X (.Constant .none j pos) (tE X.K (dCst .none)) := pe_imp pe_non fun σ H Q ⟨dr, B, F, env, s, r, q⟩ => q _ F H .refl s (.dp .non)
theorem e_str {i : Str} {j : Nat} : PE X (.Constant (.str i) j pos) (tE X.K (dCst (.str i))) := pe_imp pe_str fun σ H Q ⟨dr, B, F, env, s, r, q⟩ => q _ F H .refl s (.dp (.str i))
/-- a module's constant: its data stand in the written part -/
theorem e_glob {v : V} {d : D} (h : PE X e (tC v)) (hd : ∀ F, Dp X.K F v d) : PE X e (tE X.K (dCst d)) := pe_imp h fun σ H Q ⟨dr, B, F, env, s, r, q⟩ => q _ F H .refl s (.dp (hd F))

/-! ### operators by values -/
def rD2 (K : PySem.W.Frag) (g : D → D → Cm D) : R2 := fun x y H Q => ∃ dr F dx dy, Stt dr F H ∧ Bp K dr F H x dx ∧ Bp K dr F H y dy ∧
  (g dx dy).All fun d => ∀ v F' H', Step dr F H F' H' → Stt dr F' H' → Rp K dr F' v d → Q v H'
def rD1 (K : PySem.W.Frag) (g : D → Cm D) : V → Hp → VK → Prop := fun x H Q => ∃ dr F dx, Stt dr F H ∧ Bp K dr F H x dx ∧
  (g dx).All fun d => ∀ v F' H', Step dr F H F' H' → Stt dr F' H' → Rp K dr F' v d → Q v H'
def rDs (K : PySem.W.Frag) (g : List D → Cm D) : List V → Hp → VK → Prop := fun xs H Q => ∃ dr F ds, Stt dr F H ∧ Paired (Bp K dr F H) xs ds ∧
  (g ds).All fun d => ∀ v F' H', Step dr F H F' H' → Stt dr F' H' → Rp K dr F' v d → Q v H'
def dOp (g : D → D → Cm D) (f1 f2 : DE) : DE := fun env => (f1 env).bind fun x => (f2 env).bind fun y => g x y
def dUn (g : D → Cm D) (f1 : DE) : DE := fun env => (f1 env).bind fun x => g x
def dCall (g : List D → Cm D) (fs : DEs) : DE := fun env => (fs env).bind g
theorem op_red {K : PySem.W.Frag} {g : D → D → Cm D} {σ : L2.St} {H : Hp} {Q : VK} (h : tE K (dOp g f1 f2) σ H Q) : tOp (rD2 K g) (tB K f1) (tB K f2) σ H Q := by
  obtain ⟨dr, B, F, env, s, r, q⟩ := h
  refine ⟨dr, B, F, env, s, r, Cm.All.mono (fun x k v F1 H1 S1 T1 b1 => ?_) (Cm.all_bind.mp q)⟩
  refine ⟨dr, B, F1, env, T1, r.step S1, Cm.All.mono (fun y k2 u F2 H2 S2 T2 b2 => ?_) (Cm.all_bind.mp k)⟩
  exact ⟨dr, F2, x, y, T2, b1.step S2, b2, Cm.All.mono (fun d k3 w F3 H3 S3 T3 => k3 w F3 H3 (S1.trans (S2.trans S3 T3) T3) T3) k2⟩
theorem e_op {op : Operator} {g : D → D → Cm D} (ho : OpR X (binaryOp op) (rD2 X.K g)) (ha : PE X a (tB X.K f1)) (hb : PE X b (tB X.K f2)) : PE X (.BinOp a op b pos) (tE X.K (dOp g f1 f2)) :=
  pe_imp (pe_op ho ha hb) fun _ _ _ h => op_red h
theorem e_un {op : UnaryOp} {g : D → Cm D} (ho : UnR X (unaryOp op) (rD1 X.K g)) (ha : PE X a (tB X.K f1)) : PE X (.UnaryOp op a pos) (tE X.K (dUn g f1)) :=
  pe_imp (pe_un ho ha) fun _ _ _ h => by
    obtain ⟨dr, B, F, env, s, r, q⟩ := h
    refine ⟨dr, B, F, env, s, r, Cm.All.mono (fun x k v F1 H1 S1 T1 b1 => ?_) (Cm.all_bind.mp q)⟩
    exact ⟨dr, F1, x, T1, b1, Cm.All.mono (fun d k3 w F3 H3 S3 T3 => k3 w F3 H3 (S1.trans S3 T3) T3) k⟩
theorem e_cmp {op : CmpOp} {g : D → D → Cm D} (ho : OpR X (compareOp op) (rD2 X.K g)) (ha : PE X a (tB X.K f1)) (hb : PE X b (tB X.K f2)) (hm : behindInMarks op b = false) : PE X (.Compare a [op] [b] pos) (tE X.K (dOp g f1 f2)) :=
  pe_imp (pe_cmpR ho ha hb hm) fun _ _ _ h => op_red h
def dTru (f : DE) : DT := fun env => (f env).bind fun d => match d with
  | .bool b => .ret b
  | _ => .bad
theorem tru_red {K : PySem.W.Frag} {σ : L2.St} {H : Hp} {Q : Bool → Hp → Prop} (h : tT K (dTru f) σ H Q) : tE K f σ H fun x H' => ∃ k, x = .bl k ∧ Q k H' := by
  obtain ⟨dr, B, F, env, s, r, q⟩ := h
  refine ⟨dr, B, F, env, s, r, Cm.All.mono (fun x k v F1 H1 S1 T1 b1 => ?_) (Cm.all_bind.mp q)⟩
  cases x with
  | bool b =>
    cases b1 with
    | dp z => cases z; exact ⟨b, rfl, k F1 H1 S1 T1⟩
  | none => exact k.elim
  | int _ => exact k.elim
  | str _ => exact k.elim
  | list _ => exact k.elim
  | tuple _ => exact k.elim
  | dict _ => exact k.elim
theorem t_cmp {op : CmpOp} {g : D → D → Cm D} (ho : OpR X (compareOp op) (rD2 X.K g)) (ha : PE X a (tB X.K f1)) (hb : PE X b (tB X.K f2)) (hm : behindInMarks op b = false) : PT X (.Compare a [op] [b] pos) (tT X.K (dTru (dOp g f1 f2))) :=
  pt_imp (pt_cmpR ho ha hb hm) fun _ _ _ h => by
    have z := tru_red h
    exact op_red z
/-- a value that is a bool, as a test -/
theorem t_val (h : PE X e (tE X.K f)) (he : ∀ whole, isTrue e X.env whole = (do let v ← whole; standAt e.pos; holding [v] (truthy v)) := by intro _; rfl) : PT X e (tT X.K (dTru f)) :=
  pt_imp (pt_val h he) fun _ _ _ z => tru_red z

/-! ### and, or, not, if -/
def dAndT (t u : DT) : DT := fun env => (t env).bind fun b => if b then u env else .ret false
def dOrT (t u : DT) : DT := fun env => (t env).bind fun b => if b then .ret true else u env
def dNotT (t : DT) : DT := fun env => (t env).bind fun b => .ret (!b)
def dIf (t : DT) (f g : DE) : DE := fun env => (t env).bind fun b => if b then f env else g env
def dBool (t : DT) : DE := fun env => (t env).bind fun b => .ret (.bool b)
variable {t u : DT} {rest : List Expr}
theorem w_and1 (ha : PT X a (tT X.K t)) : PW X (.BoolOp .And [a] pos) (tT X.K t) := pw_and1 ha
theorem w_or1 (ha : PT X a (tT X.K t)) : PW X (.BoolOp .Or [a] pos) (tT X.K t) := pw_or1 ha
theorem w_and (ha : PT X a (tT X.K t)) (hb : PW X (.BoolOp .And (b :: rest) pos) (tT X.K u)) : PW X (.BoolOp .And (a :: b :: rest) pos) (tT X.K (dAndT t u)) :=
  pw_imp (pw_and ha hb) fun σ H Q ⟨dr, B, F, env, s, r, q⟩ => ⟨dr, B, F, env, s, r, Cm.All.mono (fun c k F1 H1 S1 T1 => by
    cases c with
    | true => exact ⟨dr, B, F1, env, T1, r.step S1, Cm.All.mono (fun d k3 F3 H3 S3 T3 => k3 F3 H3 (S1.trans S3 T3) T3) k⟩
    | false => exact k F1 H1 S1 T1) (Cm.all_bind.mp q)⟩
theorem w_or (ha : PT X a (tT X.K t)) (hb : PW X (.BoolOp .Or (b :: rest) pos) (tT X.K u)) : PW X (.BoolOp .Or (a :: b :: rest) pos) (tT X.K (dOrT t u)) :=
  pw_imp (pw_or ha hb) fun σ H Q ⟨dr, B, F, env, s, r, q⟩ => ⟨dr, B, F, env, s, r, Cm.All.mono (fun c k F1 H1 S1 T1 => by
    cases c with
    | false => exact ⟨dr, B, F1, env, T1, r.step S1, Cm.All.mono (fun d k3 F3 H3 S3 T3 => k3 F3 H3 (S1.trans S3 T3) T3) k⟩
    | true => exact k F1 H1 S1 T1) (Cm.all_bind.mp q)⟩
theorem t_not (ha : PT X a (tT X.K t)) : PT X (.UnaryOp .Not a pos) (tT X.K (dNotT t)) :=
  pt_imp (pt_not ha) fun σ H Q ⟨dr, B, F, env, s, r, q⟩ => ⟨dr, B, F, env, s, r, Cm.All.mono (fun c k F1 H1 S1 T1 => k F1 H1 S1 T1) (Cm.all_bind.mp q)⟩
theorem e_ifExp {c : Expr} (hc : PT X c (tT X.K t)) (ha : PE X a (tE X.K f1)) (hb : PE X b (tE X.K f2)) : PE X (.IfExp c a b pos) (tE X.K (dIf t f1 f2)) :=
  pe_imp (pe_ifExp hc ha hb) fun σ H Q ⟨dr, B, F, env, s, r, q⟩ => ⟨dr, B, F, env, s, r, Cm.All.mono (fun c k F1 H1 S1 T1 => by
    cases c with
    | true => exact ⟨dr, B, F1, env, T1, r.step S1, Cm.All.mono (fun d k3 v F3 H3 S3 T3 => k3 v F3 H3 (S1.trans S3 T3) T3) k⟩
    | false => exact ⟨dr, B, F1, env, T1, r.step S1, Cm.All.mono (fun d k3 v F3 H3 S3 T3 => k3 v F3 H3 (S1.trans S3 T3) T3) k⟩) (Cm.all_bind.mp q)⟩
/-- and, or, not as values: bools -/
def dAndV (f g : DE) : DE := fun env => (f env).bind fun d => match d with
  | .bool b => if b then g env else .ret (.bool false)
  | _ => .bad
def dOrV (f g : DE) : DE := fun env => (f env).bind fun d => match d with
  | .bool b => if b then .ret (.bool true) else g env
  | _ => .bad
def dNotV (f : DE) : DE := fun env => (f env).bind fun d => match d with
  | .bool b => .ret (.bool (!b))
  | _ => .bad
theorem bl_of {K : PySem.W.Frag} {dr : Dr} {F : Hp} {v : V} {b : Bool} (h : Rp K dr F v (.bool b)) : v = .bl b := by
  cases h with
  | dp z => cases z; rfl
theorem e_and (ha : PE X a (tE X.K f1)) (hb : PE X (.BoolOp .And (b :: rest) pos) (tE X.K f2)) : PE X (.BoolOp .And (a :: b :: rest) pos) (tE X.K (dAndV f1 f2)) :=
  pe_imp (pe_and ha hb) fun σ H Q ⟨dr, B, F, env, s, r, q⟩ => ⟨dr, B, F, env, s, r, Cm.All.mono (fun d k v F1 H1 S1 T1 b1 => by
    cases d with
    | bool c =>
      cases bl_of b1
      refine ⟨c, rfl, ?_⟩
      cases c with
      | true => exact ⟨dr, B, F1, env, T1, r.step S1, Cm.All.mono (fun d k3 v F3 H3 S3 T3 => k3 v F3 H3 (S1.trans S3 T3) T3) k⟩
      | false => exact k _ F1 H1 S1 T1 b1
    | none => exact k.elim
    | int _ => exact k.elim
    | str _ => exact k.elim
    | list _ => exact k.elim
    | tuple _ => exact k.elim
    | dict _ => exact k.elim) (Cm.all_bind.mp q)⟩
theorem e_or (ha : PE X a (tE X.K f1)) (hb : PE X (.BoolOp .Or (b :: rest) pos) (tE X.K f2)) : PE X (.BoolOp .Or (a :: b :: rest) pos) (tE X.K (dOrV f1 f2)) :=
  pe_imp (pe_or ha hb) fun σ H Q ⟨dr, B, F, env, s, r, q⟩ => ⟨dr, B, F, env, s, r, Cm.All.mono (fun d k v F1 H1 S1 T1 b1 => by
    cases d with
    | bool c =>
      cases bl_of b1
      refine ⟨c, rfl, ?_⟩
      cases c with
      | false => exact ⟨dr, B, F1, env, T1, r.step S1, Cm.All.mono (fun d k3 v F3 H3 S3 T3 => k3 v F3 H3 (S1.trans S3 T3) T3) k⟩
      | true => exact k _ F1 H1 S1 T1 b1
    | none => exact k.elim
    | int _ => exact k.elim
    | str _ => exact k.elim
    | list _ => exact k.elim
    | tuple _ => exact k.elim
    | dict _ => exact k.elim) (Cm.all_bind.mp q)⟩
theorem e_not (ha : PE X a (tE X.K f1)) : PE X (.UnaryOp .Not a pos) (tE X.K (dNotV f1)) :=
  pe_imp (pe_not ha) fun σ H Q ⟨dr, B, F, env, s, r, q⟩ => ⟨dr, B, F, env, s, r, Cm.All.mono (fun d k v F1 H1 S1 T1 b1 => by
    cases d with
    | bool c =>
      cases bl_of b1
      exact ⟨c, rfl, k _ F1 H1 S1 T1 (.dp (.bl _))⟩
    | none => exact k.elim
    | int _ => exact k.elim
    | str _ => exact k.elim
    | list _ => exact k.elim
    | tuple _ => exact k.elim
    | dict _ => exact k.elim) (Cm.all_bind.mp q)⟩
theorem e_one {op : BoolOp} (h : PE X a (tE X.K f)) : PE X (.BoolOp op [a] pos) (tE X.K f) := pe_one h
end
end Fs

set_option Elab.async false
set_option linter.all false
set_option maxRecDepth 100000
set_option maxHeartbeats 2000000
set_option autoImplicit false
namespace Fs
open PySem PySem.Spec PyProof.Rows L2

section
variable {X : Cx} {e a b c : Expr} {es : List Expr} {f f1 f2 f3 : DE} {fs : DEs} {t u : DT} {pos : Pos}
/-! ### argument lists -/
def dNil : DEs := fun _ => .ret []
def dCons (f : DE) (fs : DEs) : DEs := fun env => (f env).bind fun d => (fs env).bind fun ds => .ret (d :: ds)
theorem a_nil : PA X [] (tA X.K dNil) := pa_imp pa_nil fun σ H Q ⟨dr, B, F, env, s, r, q⟩ => q [] F H .refl s .nil
theorem a_cons (ha : PE X e (tE X.K f)) (hr : PA X es (tA X.K fs)) (hs : starEach (e :: es) X.env = (false, eval e X.env) :: starEach es X.env := by rfl) : PA X (e :: es) (tA X.K (dCons f fs)) :=
  pa_imp (pa_cons ha hr hs) fun σ H Q ⟨dr, B, F, env, s, r, q⟩ => ⟨dr, B, F, env, s, r, Cm.All.mono (fun d k v F1 H1 S1 T1 b1 =>
    ⟨dr, B, F1, env, T1, r.step S1, Cm.All.mono (fun ds k3 vs F3 H3 S3 T3 p3 => k3 (v :: vs) F3 H3 (S1.trans S3 T3) T3 (.cons (b1.up S3.up) p3)) (Cm.all_bind.mp k)⟩) (Cm.all_bind.mp q)⟩
theorem ab_nil : PA X [] (tAb X.K dNil) := pa_imp pa_nil fun σ H Q ⟨dr, B, F, env, s, r, q⟩ => q [] F H .refl s .nil
theorem ab_cons (ha : PE X e (tB X.K f)) (hr : PA X es (tAb X.K fs)) (hs : starEach (e :: es) X.env = (false, eval e X.env) :: starEach es X.env := by rfl) : PA X (e :: es) (tAb X.K (dCons f fs)) :=
  pa_imp (pa_cons ha hr hs) fun σ H Q ⟨dr, B, F, env, s, r, q⟩ => ⟨dr, B, F, env, s, r, Cm.All.mono (fun d k v F1 H1 S1 T1 b1 =>
    ⟨dr, B, F1, env, T1, r.step S1, Cm.All.mono (fun ds k3 vs F3 H3 S3 T3 p3 => k3 (v :: vs) F3 H3 (S1.trans S3 T3) T3 (.cons (b1.step S3) p3)) (Cm.all_bind.mp k)⟩) (Cm.all_bind.mp q)⟩

/-! ### new objects -/
theorem dr_there {dr : Dr} {F H : Hp} (s : Stt dr F H) {a : Addr} (h : dr.has a) : ∃ o, H a = some o := by
  obtain ⟨l, c, r, t, h1, h2, h3, _⟩ := s.drw
  rcases h with rfl | rfl | rfl
  · exact ⟨_, h1⟩
  · exact ⟨_, h2⟩
  · exact ⟨_, h3⟩
theorem not_dr {dr : Dr} {F H : Hp} (s : Stt dr F H) {p : Addr} (h : H p = none) : ¬ dr.has p := fun z => by
  obtain ⟨o, e⟩ := dr_there s z
  rw [h] at e; cases e
theorem DrawOk.upd {dr : Dr} {H : Hp} {p : Addr} {o : HO} (h : DrawOk dr H) (n : ¬ dr.has p) : DrawOk dr (upd H p o) := by
  obtain ⟨l, c, r, t, h1, h2, h3, h4⟩ := h
  refine ⟨l, c, r, t, ?_, ?_, ?_, h4⟩
  · rw [upd_ne (fun z => n (.inl z.symm))]; exact h1
  · rw [upd_ne (fun z => n (.inr (.inl z.symm)))]; exact h2
  · rw [upd_ne (fun z => n (.inr (.inr z.symm)))]; exact h3
/-- laid and frozen -/
theorem lay {dr : Dr} {F H : Hp} (s : Stt dr F H) {p : Addr} (h : H p = none) (o : HO) : Step dr F H (upd F p o) (upd H p o) ∧ Stt dr (upd F p o) (upd H p o) := by
  have nf : F p = none := by
    cases q : F p with
    | none => rfl
    | some u => have := s.sub _ _ q; rw [h] at this; cases this
  refine ⟨⟨fun a u e => ?_, fun a u n e => ?_, fun a u e => ?_⟩, ⟨fun a u e => ?_, s.drw.upd (not_dr s h), fun a z => ?_⟩⟩
  · rw [upd_ne (ne_of_none e nf)]; exact e
  · rw [upd_ne (ne_of_none e h)]; exact e
  · by_cases e1 : a = p
    · right; rw [e1]; exact h
    · left; rw [upd_ne e1] at e; exact e
  · by_cases e1 : a = p
    · rw [e1, upd_same] at e; rw [e1, upd_same]; exact e
    · rw [upd_ne e1] at e; rw [upd_ne e1]; exact s.sub _ _ e
  · rw [upd_ne (fun e1 => not_dr s h (by rw [← e1]; exact z))]; exact s.nodr a z
/-- laid, not frozen -/
theorem lay_own {dr : Dr} {F H : Hp} (s : Stt dr F H) {p : Addr} (h : H p = none) (o : HO) : Step dr F H F (upd H p o) ∧ Stt dr F (upd H p o) ∧ F p = none := by
  have nf : F p = none := by
    cases q : F p with
    | none => rfl
    | some u => have := s.sub _ _ q; rw [h] at this; cases this
  refine ⟨⟨fun a u e => e, fun a u n e => ?_, fun a u e => .inl e⟩, ⟨fun a u e => ?_, s.drw.upd (not_dr s h), s.nodr⟩, nf⟩
  · rw [upd_ne (ne_of_none e h)]; exact e
  · rw [upd_ne (ne_of_none e nf)]; exact s.sub _ _ e
/-- an own object becomes frozen -/
theorem freeze {dr : Dr} {F H : Hp} (s : Stt dr F H) {p : Addr} {o : HO} (h : H p = some o) (nf : F p = none) (n : ¬ dr.has p) : Stt dr (upd F p o) H ∧ ∀ a u, F a = some u → upd F p o a = some u := by
  refine ⟨⟨fun a u e => ?_, s.drw, fun a z => ?_⟩, fun a u e => ?_⟩
  · by_cases e1 : a = p
    · rw [e1, upd_same] at e; rw [e1, h]; exact e
    · rw [upd_ne e1] at e; exact s.sub _ _ e
  · rw [upd_ne (fun e1 => n (by rw [← e1]; exact z))]; exact s.nodr a z
  · rw [upd_ne (ne_of_none e nf)]; exact e

/-! ### displays -/
def dTup (fs : DEs) : DE := fun env => (fs env).bind fun ds => if ds.length ≤ 1000000 then .ret (.tuple ds) else .bad
def dLst (fs : DEs) : DE := fun env => (fs env).bind fun ds => if ds.length ≤ 1000000 then .ret (.list ds) else .bad
theorem mil {n : Nat} (h : n ≤ 1000000) : n ≤ sizeLine := Nat.le_trans h (by decide)
theorem mil_lt {n : Nat} (h : n ≤ 1000000) : n < sizeLine := Nat.lt_of_le_of_lt h (by decide)
theorem rp_dp {K : PySem.W.Frag} {dr : Dr} {F : Hp} {v : V} {d : D} (h : Rp K dr F v d) (n : ∀ kvs, d ≠ .dict kvs) : Dp K F v d := by
  cases h with
  | dp h => exact h
  | drw => exact absurd rfl (n _)
  | dct _ => exact absurd rfl (n _)
/-- data through and through: no dict in sight -/
def flatD : D → Bool
  | .dict _ => false
  | _ => true
theorem paired_dpa {K : PySem.W.Frag} {dr : Dr} {F : Hp} : ∀ {vs : List V} {ds : List D}, Paired (Rp K dr F) vs ds → ds.all flatD = true → DpAll K F vs ds
  | _, _, .nil, _ => .nil
  | _, d :: ds, .cons r t, h => by
    rw [List.all_cons, Bool.and_eq_true] at h
    exact .cons (rp_dp r fun kvs e => by rw [e] at h; exact absurd h.1 (by simp [flatD])) (paired_dpa t h.2)
def dTupF (fs : DEs) : DE := fun env => (fs env).bind fun ds => if ds.length ≤ 1000000 ∧ ds.all flatD = true then .ret (.tuple ds) else .bad
def dLstF (fs : DEs) : DE := fun env => (fs env).bind fun ds => if ds.length ≤ 1000000 ∧ ds.all flatD = true then .ret (.list ds) else .bad
theorem e_tup {x1 : _} (h : PA X es (tA X.K fs)) : PE X (.Tuple es x1 pos) (tE X.K (dTupF fs)) :=
  pe_imp (pe_tup h) fun σ H Q ⟨dr, B, F, env, s, r, q⟩ => ⟨dr, B, F, env, s, r, Cm.All.mono (fun ds k vs F1 H1 S1 T1 b1 => by
    by_cases hl : ds.length ≤ 1000000 ∧ ds.all flatD = true
    · rw [if_pos hl] at k
      have ha := paired_dpa b1 hl.2
      refine ⟨by rw [b1.length]; exact mil hl.1, fun p hp => ?_⟩
      obtain ⟨S2, T2⟩ := lay T1 hp (.tup vs)
      exact k _ _ _ (S1.trans S2 T2) T2 (.dp (.tup (.inl (.inl upd_same)) (dpa_up S2.up _ _ ha)))
    · rw [if_neg hl] at k; exact k.elim) (Cm.all_bind.mp q)⟩

/-- a new object of the body's own -/
def tF (K : PySem.W.Frag) (f : DE) : TE := fun σ H Q => ∃ dr B F env, Stt dr F H ∧ Rs K dr B F H σ env ∧
  (f env).All fun d => ∀ p F' H', Step dr F H F' H' → Stt dr F' H' → H p = none → F' p = none → OwnAt K F' H' p d → Q (.ref p) H'
theorem f_lst (h : PA X es (tA X.K fs)) : PE X (.List es pos) (tF X.K (dLstF fs)) :=
  pe_imp (pe_lst h) fun σ H Q ⟨dr, B, F, env, s, r, q⟩ => ⟨dr, B, F, env, s, r, Cm.All.mono (fun ds k vs F1 H1 S1 T1 b1 => by
    by_cases hl : ds.length ≤ 1000000 ∧ ds.all flatD = true
    · rw [if_pos hl] at k
      have ha := paired_dpa b1 hl.2
      refine ⟨by rw [b1.length]; exact mil hl.1, fun p hp => ?_⟩
      obtain ⟨S2, T2, nf⟩ := lay_own T1 hp (.lst vs)
      have hp0 : H p = none := by
        cases z : H p with
        | none => rfl
        | some o => have := S1.keep p o (not_dr T1 hp) z; rw [hp] at this; cases this
      exact k p F1 _ (S1.trans S2 T2) T2 hp0 nf ⟨vs, upd_same, ha⟩
    · rw [if_neg hl] at k; exact k.elim) (Cm.all_bind.mp q)⟩
theorem dict_no {K : PySem.W.Frag} {F H : Hp} {p : Addr} {d : D} (h : OwnAt K F H p d) : (∃ ds, d = .list ds) ∨ ∃ kvs, d = .dict kvs := by
  cases d with
  | list ds => exact .inl ⟨ds, rfl⟩
  | dict kvs => exact .inr ⟨kvs, rfl⟩
  | none => exact h.elim
  | bool _ => exact h.elim
  | int _ => exact h.elim
  | str _ => exact h.elim
  | tuple _ => exact h.elim
/-- a list only -/
def dOnlyL (f : DE) : DE := fun env => (f env).bind fun d => match d with
  | .list ds => .ret (.list ds)
  | _ => .bad
/-- a new list, frozen at once -/
theorem e_f (h : PE X e (tF X.K f)) : PE X e (tE X.K (dOnlyL f)) := pe_imp h fun σ H Q ⟨dr, B, F, env, s, r, q⟩ => ⟨dr, B, F, env, s, r, Cm.All.mono (fun d k p F1 H1 S1 T1 hp nf o => by
    rcases dict_no o with ⟨ds, rfl⟩ | ⟨kvs, rfl⟩
    · obtain ⟨vs, e1, ha⟩ := o
      have nd : ¬ dr.has p := not_dr s hp
      obtain ⟨T2, up⟩ := freeze T1 e1 nf nd
      refine k _ (upd F1 p (.lst vs)) H1 ⟨fun a u e => up _ _ (S1.up a u e), S1.keep, fun a u e => ?_⟩ T2 (.dp (.lst (.inl (.inl upd_same)) (dpa_up up _ _ ha)))
      by_cases e2 : a = p
      · right; rw [e2]; exact hp
      · rw [upd_ne e2] at e; exact S1.new a u e
    · exact k.elim) (Cm.all_bind.mp q)⟩
theorem e_lst (h : PA X es (tA X.K fs)) : PE X (.List es pos) (tE X.K (dOnlyL (dLstF fs))) := e_f (f_lst h)

/-! ### what a def promises, calls -/
def spD (K : PySem.W.Frag) (n : Nat) (g : List D → Cm D) : Sp := fun vs H Q _ => ∃ dr F ds, Stt dr F H ∧ Paired (Rp K dr F) vs ds ∧ ds.length = n ∧
  (g ds).All fun d => ∀ v F' H', Step dr F H F' H' → Stt dr F' H' → Rp K dr F' v d → Q v H'
def dCallN (n : Nat) (g : List D → Cm D) (fs : DEs) : DE := fun env => (fs env).bind fun ds => if ds.length = n then g ds else .bad
theorem call_red {K : PySem.W.Frag} {n : Nat} {g : List D → Cm D} {σ : L2.St} {H : Hp} {Q : VK} {E : XK} (h : tE K (dCallN n g fs) σ H Q) : tCall (spD K n g) [] E (tA K fs) σ H Q := by
  obtain ⟨dr, B, F, env, s, r, q⟩ := h
  refine ⟨dr, B, F, env, s, r, Cm.All.mono (fun ds k vs F1 H1 S1 T1 b1 => ?_) (Cm.all_bind.mp q)⟩
  by_cases hl : ds.length = n
  · rw [if_pos hl] at k
    rw [List.append_nil]
    exact ⟨dr, F1, ds, T1, b1, hl, Cm.All.mono (fun d k3 v F3 H3 S3 T3 => k3 v F3 H3 (S1.trans S3 T3) T3) k⟩
  · rw [if_neg hl] at k; exact k.elim
theorem e_call {k n : Nat} {fa : Addr} {fd : FuncData} {ps : List Str} {x : Str} {p : Pos} {g : List D → Cm D} (FO : FnOk X.prog X.w X.K X.mg X.base CX0 k fa fd ps (spD X.K n g)) (hr : Room k X.A) (hg : Gl X x) (hm : X.mg x = some (.ref fa)) (hk : PySem.W.keepIn X.K (.ref fa) = true) (hb : Binds X.K fd ps [])
    (ha : PA X (e :: es) (tA X.K fs)) (hdb : (x == ("__debug__" : Str)) = false := by decide) (he : starEach (e :: es) X.env = (false, eval e X.env) :: starEach es X.env := by rfl) (hpl : (backTo pos (starEach es X.env)).any (·.1) = false := by rfl) :
    PE X (.Call (.Name x p) (e :: es) [] pos) (tE X.K (dCallN n g fs)) :=
  pe_imp (pe_call (E := E0) FO hr hg hm hk hb .nil pass0 ha hdb he hpl) fun σ H Q h => call_red h
theorem e_call0 {k : Nat} {fa : Addr} {fd : FuncData} {x : Str} {p : Pos} {g : List D → Cm D} (FO : FnOk X.prog X.w X.K X.mg X.base CX0 k fa fd [] (spD X.K 0 g)) (hr : Room k X.A) (hg : Gl X x) (hm : X.mg x = some (.ref fa)) (hk : PySem.W.keepIn X.K (.ref fa) = true) (hb : Binds X.K fd [] [])
    (hdb : (x == ("__debug__" : Str)) = false := by decide) : PE X (.Call (.Name x p) [] [] pos) (tE X.K (dCallN 0 g dNil)) :=
  pe_imp (pe_call0 (E := E0) FO hr hg hm hk hb .nil pass0 hdb) fun σ H Q h => by
    obtain ⟨dr, B, F, env, s, r, q⟩ := call_red (E := E0) h
    exact q [] F H .refl s .nil

/-! ### built-ins by values -/
theorem cb_red {K : PySem.W.Frag} {g : List D → Cm D} {σ : L2.St} {H : Hp} {Q : VK} (h : tE K (dCall g fs) σ H Q) : tCB (rDs K g) (tAb K fs) σ H Q := by
  obtain ⟨dr, B, F, env, s, r, q⟩ := h
  exact ⟨dr, B, F, env, s, r, Cm.All.mono (fun ds k vs F1 H1 S1 T1 b1 => ⟨dr, F1, ds, T1, b1, Cm.All.mono (fun d k3 v F3 H3 S3 T3 => k3 v F3 H3 (S1.trans S3 T3) T3) k⟩) (Cm.all_bind.mp q)⟩
theorem e_callB {id : String} {x : Str} {p : Pos} {g : List D → Cm D} (hc : CallR X (.builtin id) (rDs X.K g)) (hg : Gl X x) (hm : X.mg x = none) (hv : bootBuiltins x = some (.builtin id)) (ha : PA X (e :: es) (tAb X.K fs)) (hn : x ≠ "__name__" := by decide) (hdb : (x == ("__debug__" : Str)) = false := by decide)
    (he : starEach (e :: es) X.env = (false, eval e X.env) :: starEach es X.env := by rfl) (hpl : (backTo pos (starEach es X.env)).any (·.1) = false := by rfl) : PE X (.Call (.Name x p) (e :: es) [] pos) (tE X.K (dCall g fs)) :=
  pe_imp (pe_callB hc hg hm hv ha hn hdb he hpl) fun _ _ _ h => cb_red h
theorem e_callTy {T : String} {x : Str} {p : Pos} {g : List D → Cm D} (hc : CallR X (.type T) (rDs X.K g)) (hg : Gl X x) (hm : X.mg x = none) (hv : bootBuiltins x = some (.type T)) (ha : PA X (e :: es) (tAb X.K fs)) (hn : x ≠ "__name__" := by decide) (hdb : (x == ("__debug__" : Str)) = false := by decide)
    (he : starEach (e :: es) X.env = (false, eval e X.env) :: starEach es X.env := by rfl) (hpl : (backTo pos (starEach es X.env)).any (·.1) = false := by rfl) : PE X (.Call (.Name x p) (e :: es) [] pos) (tE X.K (dCall g fs)) :=
  pe_imp (pe_callTy hc hg hm hv ha hn hdb he hpl) fun _ _ _ h => cb_red h
/-- a subscript -/
theorem e_ix {g : D → D → Cm D} (hr : IxR X (rD2 X.K g)) (ha : PE X a (tB X.K f1)) (hb : PE X b (tB X.K f2)) (hs : PlainIx b) : PE X (.Subscript a b pos) (tE X.K (dOp g f1 f2)) :=
  pe_imp (pe_ix hr ha hb hs) fun _ _ _ h => op_red h
end

/-! ### statements -/
inductive Out where
  | nx (env : Env)
  | rt (d : D)
  | bk (env : Env)
  | ct (env : Env)
abbrev DS := Env → Cm Out
def Post (K : PySem.W.Frag) (dr : Dr) (F0 H0 : Hp) (D : Ends) : Out → Prop
  | .nx env => ∀ σ F H, Stt dr F H → Step dr F0 H0 F H → Rs K dr H0 F H σ env → D.nx σ H
  | .rt d => ∀ v F H, Stt dr F H → Step dr F0 H0 F H → Rp K dr F v d → D.rt v H
  | .bk env => ∀ σ F H, Stt dr F H → Step dr F0 H0 F H → Rs K dr H0 F H σ env → D.bk σ H
  | .ct env => ∀ σ F H, Stt dr F H → Step dr F0 H0 F H → Rs K dr H0 F H σ env → D.ct σ H
def tS (K : PySem.W.Frag) (s : DS) : TS := fun D σ H => ∃ dr F0 H0 F env, Stt dr F H ∧ Step dr F0 H0 F H ∧ Rs K dr H0 F H σ env ∧ (s env).All (Post K dr F0 H0 D)

theorem Rs.get {K : PySem.W.Frag} {dr : Dr} {B F H : Hp} {σ : L2.St} {env : Env} (r : Rs K dr B F H σ env) {i : Nat} {s : Slot} (h : env[i]? = some s) : i < σ.length := by
  rw [r.len]; exact (List.getElem?_eq_some_iff.mp h).1
theorem Rs.setVal {K : PySem.W.Frag} {dr : Dr} {B F H : Hp} {σ : L2.St} {env : Env} (r : Rs K dr B F H σ env) (i : Nat) {v : V} {d : D} (h : Rp K dr F v d) : Rs K dr B F H (σ.set i (some v)) (env.set i (.val d)) where
  len := by rw [List.length_set, List.length_set]; exact r.len
  ok := fun j s e => by
    by_cases hj : i = j
    · subst hj
      by_cases hi : i < env.length
      · rw [List.getElem?_set_self hi] at e
        cases e
        rw [List.getElem?_set_self (by rw [r.len]; exact hi)]
        exact ⟨_, rfl, v, rfl, h⟩
      · rw [List.getElem?_eq_none (by simpa using hi)] at e; cases e
    · rw [List.getElem?_set_ne hj] at e
      rw [List.getElem?_set_ne hj]
      exact r.ok j s e
  apart := fun j k p d1 d2 e1 e2 s1 s2 => by
    have aux : ∀ j d1, (env.set i (Slot.val d))[j]? = some (.own d1) → i ≠ j := fun j d1 e1 hj => by
      subst hj
      by_cases hi : i < env.length
      · rw [List.getElem?_set_self hi] at e1; cases e1
      · rw [List.getElem?_eq_none (by simpa using hi)] at e1; cases e1
    have n1 := aux j d1 e1
    have n2 := aux k d2 e2
    rw [List.getElem?_set_ne n1] at e1 s1
    rw [List.getElem?_set_ne n2] at e2 s2
    exact r.apart j k p d1 d2 e1 e2 s1 s2
theorem Rs.setOwn {K : PySem.W.Frag} {dr : Dr} {B F H : Hp} {σ : L2.St} {env : Env} (r : Rs K dr B F H σ env) (i : Nat) {p : Addr} {d : D} (hB : B p = none) (hF : F p = none) (hd : ¬ dr.has p) (h : OwnAt K F H p d)
    (new : ∀ j e, j ≠ i → env[j]? = some (.own e) → σ[j]? ≠ some (some (.ref p))) : Rs K dr B F H (σ.set i (some (.ref p))) (env.set i (.own d)) where
  len := by rw [List.length_set, List.length_set]; exact r.len
  ok := fun j s e => by
    by_cases hj : i = j
    · subst hj
      by_cases hi : i < env.length
      · rw [List.getElem?_set_self hi] at e
        cases e
        rw [List.getElem?_set_self (by rw [r.len]; exact hi)]
        exact ⟨_, rfl, p, rfl, hB, hF, hd, h⟩
      · rw [List.getElem?_eq_none (by simpa using hi)] at e; cases e
    · rw [List.getElem?_set_ne hj] at e
      rw [List.getElem?_set_ne hj]
      exact r.ok j s e
  apart := fun j k q d1 d2 e1 e2 s1 s2 => by
    by_cases hj : i = j
    · by_cases hk : i = k
      · rw [← hj, ← hk]
      · exfalso
        rw [List.getElem?_set_ne hk] at e2 s2
        subst hj
        by_cases hi : i < σ.length
        · rw [List.getElem?_set_self hi] at s1
          cases s1
          exact new k d2 (fun z => hk z.symm) e2 s2
        · rw [List.getElem?_eq_none (by simpa using hi)] at s1; cases s1
    · rw [List.getElem?_set_ne hj] at e1 s1
      by_cases hk : i = k
      · exfalso
        subst hk
        by_cases hi : i < σ.length
        · rw [List.getElem?_set_self hi] at s2
          cases s2
          exact new j d1 (fun z => hj z.symm) e1 s1
        · rw [List.getElem?_eq_none (by simpa using hi)] at s2; cases s2
      · rw [List.getElem?_set_ne hk] at e2 s2
        exact r.apart j k q d1 d2 e1 e2 s1 s2
/-- an own list of slot i is written -/
theorem Rs.write {K : PySem.W.Frag} {dr : Dr} {B F H : Hp} {σ : L2.St} {env : Env} (s : Stt dr F H) (r : Rs K dr B F H σ env) {i : Nat} {d d' : D} {p : Addr} {o : HO} (he : env[i]? = some (.own d)) (hs : σ[i]? = some (some (.ref p))) (h : OwnAt K F (upd H p o) p d') :
    Rs K dr B F (upd H p o) σ (env.set i (.own d')) ∧ Stt dr F (upd H p o) ∧ B p = none := by
  obtain ⟨o1, ho, q, hq, hB, hF, hn, own⟩ := r.ok i _ he
  rw [hs] at ho
  cases ho
  cases hq
  have hi : i < env.length := (List.getElem?_eq_some_iff.mp he).1
  refine ⟨⟨by rw [List.length_set]; exact r.len, fun j t e => ?_, fun j k q d1 d2 e1 e2 s1 s2 => ?_⟩, ⟨fun a u e => ?_, s.drw.upd hn, s.nodr⟩, hB⟩
  · by_cases hj : i = j
    · subst hj
      rw [List.getElem?_set_self hi] at e
      cases e
      exact ⟨_, hs, p, rfl, hB, hF, hn, h⟩
    · rw [List.getElem?_set_ne hj] at e
      obtain ⟨o2, h2, ok⟩ := r.ok j t e
      refine ⟨o2, h2, ?_⟩
      cases t with
      | no => trivial
      | val d => exact ok
      | own d2 =>
        obtain ⟨q2, e2, b2, f2, n2, w2⟩ := ok
        refine ⟨q2, e2, b2, f2, n2, ?_⟩
        have nq : q2 ≠ p := fun z => by
          subst z
          subst e2
          exact hj (r.apart i j q2 _ _ he e hs h2)
        exact w2.at (upd_ne nq)
  · have aux : ∀ (j : Nat) (d1 : D), (env.set i (Slot.own d'))[j]? = some (Slot.own d1) → ∃ d0, env[j]? = some (Slot.own d0) := fun j d1 e1 => by
      by_cases hj : i = j
      · subst hj; exact ⟨_, he⟩
      · rw [List.getElem?_set_ne hj] at e1; exact ⟨_, e1⟩
    obtain ⟨d3, e3⟩ := aux j d1 e1
    obtain ⟨d4, e4⟩ := aux k d2 e2
    exact r.apart j k q d3 d4 e3 e4 s1 s2
  · rw [upd_ne (ne_of_none e hF)]; exact s.sub _ _ e
theorem step_write {dr : Dr} {F0 H0 F H : Hp} {p : Addr} {o : HO} (S : Step dr F0 H0 F H) (hB : H0 p = none) : Step dr F0 H0 F (upd H p o) :=
  ⟨S.up, fun a u n e => by rw [upd_ne (ne_of_none e hB)]; exact S.keep a u n e, S.new⟩
/-- slot i is frozen -/
def frz1 (i : Nat) (env : Env) : Env := match env[i]? with
  | some (.own d) => env.set i (.val d)
  | _ => env
/-- an own object frozen is a value -/
theorem OwnAt.rp {K : PySem.W.Frag} {dr : Dr} {F H : Hp} {p : Addr} {d : D} {o : HO} (h : OwnAt K F H p d) (e : H p = some o) (up : ∀ a u, F a = some u → upd F p o a = some u) : Rp K dr (upd F p o) (.ref p) d := by
  have hp : ∀ u, H p = some u → upd F p o p = some u := fun u q => by rw [e] at q; cases q; exact upd_same
  cases d with
  | list ds =>
    obtain ⟨vs, q, r⟩ := h
    rw [e] at q
    cases q
    exact .dp (.lst (.inl (.inl upd_same)) (dpa_up up _ _ r))
  | dict kvs => exact .dct (h.mono up hp)
  | none => exact h.elim
  | bool _ => exact h.elim
  | int _ => exact h.elim
  | str _ => exact h.elim
  | tuple _ => exact h.elim
theorem Rs.frz1 {K : PySem.W.Frag} {dr : Dr} {F0 H0 F H : Hp} {σ : L2.St} {env : Env} (s : Stt dr F H) (S : Step dr F0 H0 F H) (r : Rs K dr H0 F H σ env) (i : Nat) : ∃ F', Stt dr F' H ∧ Step dr F0 H0 F' H ∧ Rs K dr H0 F' H σ (frz1 i env) := by
  unfold Fs.frz1
  split
  · rename_i d0 he
    obtain ⟨o1, ho, p, hq, hB, hF, hn, w⟩ := r.ok i _ he
    subst hq
    obtain ⟨oo, hv⟩ := w.there
    obtain ⟨T, up⟩ := freeze s hv hF hn
    have hi : i < env.length := (List.getElem?_eq_some_iff.mp he).1
    refine ⟨upd F p oo, T, ⟨fun a u e => up _ _ (S.up a u e), S.keep, fun a u e => ?_⟩, ⟨by rw [List.length_set]; exact r.len, fun j t e => ?_, fun j k q d1 d2 e1 e2 s1 s2 => ?_⟩⟩
    · by_cases e1 : a = p
      · right; rw [e1]; exact hB
      · rw [upd_ne e1] at e; exact S.new a u e
    · by_cases hj : i = j
      · subst hj
        rw [List.getElem?_set_self hi] at e
        cases e
        exact ⟨_, ho, _, rfl, w.rp hv up⟩
      · rw [List.getElem?_set_ne hj] at e
        obtain ⟨o2, h2, ok⟩ := r.ok j t e
        refine ⟨o2, h2, ?_⟩
        cases t with
        | no => trivial
        | val d => obtain ⟨v, e3, r3⟩ := ok; exact ⟨v, e3, r3.up up⟩
        | own d2 =>
          obtain ⟨q2, e2, b2, f2, n2, w2⟩ := ok
          have nq : q2 ≠ p := fun z => by
            subst z
            subst e2
            exact hj (r.apart i j q2 _ _ he e ho h2)
          refine ⟨q2, e2, b2, by rw [upd_ne nq]; exact f2, n2, ?_⟩
          exact w2.mono up fun _ e => e
    · have aux : ∀ j d1, (env.set i (Slot.val d0))[j]? = some (.own d1) → i ≠ j ∧ env[j]? = some (.own d1) := fun j d1 e1 => by
        by_cases hj : i = j
        · subst hj; rw [List.getElem?_set_self hi] at e1; cases e1
        · rw [List.getElem?_set_ne hj] at e1; exact ⟨hj, e1⟩
      exact r.apart j k q d1 d2 (aux j d1 e1).2 (aux k d2 e2).2 s1 s2
  · exact ⟨F, s, S, r⟩

section
variable {X : Cx} {e a b c : Expr} {es : List Expr} {f f1 f2 f3 : DE} {fs : DEs} {t u : DT} {pos : Pos} {st : Stmt} {rest : List Stmt} {s s1 s2 : DS}
def dSkip : DS := fun env => .ret (.nx env)
def dSeq (s1 s2 : DS) : DS := fun env => (s1 env).bind fun o => match o with
  | .nx env' => s2 env'
  | .rt d => .ret (.rt d)
  | .bk e => .ret (.bk e)
  | .ct e => .ret (.ct e)
def dFrz (i : Nat) (s : DS) : DS := fun env => s (frz1 i env)
def dNever : DS := fun _ => .bad
def dRet (f : DE) : DS := fun env => (f env).bind fun d => .ret (.rt d)
def dRetN : DS := fun _ => .ret (.rt .none)
def dSet (i : Nat) (f : DE) : DS := fun env => (f env).bind fun d => .ret (.nx (env.set i (.val d)))
def dSetF (i : Nat) (f : DE) : DS := fun env => (f env).bind fun d => .ret (.nx (env.set i (.own d)))
def dIfS (t : DT) (s1 s2 : DS) : DS := fun env => (t env).bind fun b => if b then s1 env else s2 env
def dDrop (f : DE) : DS := fun env => (f env).bind fun _ => .ret (.nx env)
def dCont : DS := fun env => .ret (.ct env)
def dBrk : DS := fun env => .ret (.bk env)
theorem ss_nil : PSs X [] (tS X.K dSkip) := pss_imp pss_nil fun D σ H ⟨dr, F0, H0, F, env, s, S, r, q⟩ => q σ F H s S r
theorem ss_cons (h1 : PS X st (tS X.K s1)) (h2 : PSs X rest (tS X.K s2)) : PSs X (st :: rest) (tS X.K (dSeq s1 s2)) :=
  pss_imp (pss_cons h1 h2) fun D σ H ⟨dr, F0, H0, F, env, s, S, r, q⟩ => ⟨dr, F0, H0, F, env, s, S, r, Cm.All.mono (fun o k => by
    cases o with
    | nx env' => exact fun σ' F' H' T' S' r' => ⟨dr, F0, H0, F', env', T', S', r', k⟩
    | rt d => exact k
    | bk e => exact k
    | ct e => exact k) (Cm.all_bind.mp q)⟩
theorem ss_one (h1 : PS X st (tS X.K s1)) : PSs X [st] (tS X.K s1) := pss_one h1
theorem s_frz (i : Nat) (h : PS X st (tS X.K s)) : PS X st (tS X.K (dFrz i s)) := ps_imp h fun D σ H ⟨dr, F0, H0, F, env, s, S, r, q⟩ => by
  obtain ⟨F', T', S', r'⟩ := r.frz1 s S i
  exact ⟨dr, F0, H0, F', _, T', S', r', q⟩
theorem s_never : PS X st (tS X.K dNever) := ps_imp ps_never fun D σ H ⟨dr, F0, H0, F, env, s, S, r, q⟩ => q
theorem ss_never {sts : List Stmt} : PSs X sts (tS X.K dNever) := pss_imp pss_never fun D σ H ⟨dr, F0, H0, F, env, s, S, r, q⟩ => q
theorem s_ret (he : PE X e (tE X.K f)) : PS X (.Return (some e) pos) (tS X.K (dRet f)) := ps_imp (ps_ret he) fun D σ H ⟨dr, F0, H0, F, env, s, S, r, q⟩ =>
  ⟨dr, H0, F, env, s, r, Cm.All.mono (fun d k v F' H' S' T' rv => k v F' H' T' (S.trans S' T') rv) (Cm.all_bind.mp q)⟩
theorem s_retN : PS X (.Return none pos) (tS X.K dRetN) := ps_imp ps_retN fun D σ H ⟨dr, F0, H0, F, env, s, S, r, q⟩ => q _ F H s S (.dp .non)
theorem s_cont : PS X (.Continue pos) (tS X.K dCont) := ps_imp ps_continue fun D σ H ⟨dr, F0, H0, F, env, s, S, r, q⟩ => q σ F H s S r
theorem s_brk : PS X (.Break pos) (tS X.K dBrk) := ps_imp ps_break fun D σ H ⟨dr, F0, H0, F, env, s, S, r, q⟩ => q σ F H s S r
theorem s_pass : PS X (.Pass pos) (tS X.K dSkip) := ps_imp ps_pass fun D σ H ⟨dr, F0, H0, F, env, s, S, r, q⟩ => q σ F H s S r
theorem s_drop (he : PE X e (tE X.K f)) (hs : swapsWith e none pos.line X.env = pure false := by rfl) : PS X (.Expr e pos) (tS X.K (dDrop f)) := ps_imp (ps_expr he hs) fun D σ H ⟨dr, F0, H0, F, env, s, S, r, q⟩ =>
  ⟨dr, H0, F, env, s, r, Cm.All.mono (fun d k v F' H' S' T' rv => k σ F' H' T' (S.trans S' T') (r.step S')) (Cm.all_bind.mp q)⟩
theorem s_if {ss1 ss2 : List Stmt} (hc : PT X c (tT X.K t)) (ha : PSs X ss1 (tS X.K s1)) (hb : PSs X ss2 (tS X.K s2)) : PS X (.If c ss1 ss2 pos) (tS X.K (dIfS t s1 s2)) :=
  ps_imp (ps_if hc ha hb) fun D σ H ⟨dr, F0, H0, F, env, s, S, r, q⟩ => ⟨dr, H0, F, env, s, r, Cm.All.mono (fun b k F' H' S' T' => by
    cases b with
    | true => exact ⟨dr, F0, H0, F', env, T', S.trans S' T', r.step S', k⟩
    | false => exact ⟨dr, F0, H0, F', env, T', S.trans S' T', r.step S', k⟩) (Cm.all_bind.mp q)⟩
theorem s_set {i : Nat} {x : Str} {pos' : Pos} (hN : X.N.Nodup) (hi : X.N[i]? = some x) (hx : Loc X.env.scope x) (he : PE X e (tE X.K f)) (hs : swapsWith e (some (.Name x pos')) pos.line X.env = pure false := by rfl) (hf : X.fn x = true ∨ X.env.scope.names.lookup x = some .local := by first | exact .inl rfl | exact .inr rfl | assumption) :
    PS X (.Assign [.Name x pos'] e pos) (tS X.K (dSet i f)) := ps_imp (ps_set hN hi hx he hs hf) fun D σ H ⟨dr, F0, H0, F, env, s, S, r, q⟩ =>
  ⟨dr, H0, F, env, s, r, Cm.All.mono (by intro d k v F' H' S' T' rv; exact k _ F' H' T' (S.trans S' T') ((r.step S').setVal i rv)) (Cm.all_bind.mp q)⟩
theorem Rs.newOwn {K : PySem.W.Frag} {dr : Dr} {B F H F' H' : Hp} {σ : L2.St} {env : Env} (r : Rs K dr B F H σ env) {i : Nat} {p : Addr} {d : D} (S : Step dr F H F' H') (T : Stt dr F H) (hp : H p = none) (hB : B p = none) (nf : F' p = none) (o : OwnAt K F' H' p d) :
    Rs K dr B F' H' (σ.set i (some (.ref p))) (env.set i (.own d)) := by
  refine (r.step S).setOwn i hB nf (not_dr T hp) o fun j d2 hj e2 s2 => ?_
  obtain ⟨o2, h2, q2, e3, _, _, _, w⟩ := r.ok j _ e2
  rw [s2] at h2
  cases h2
  cases e3
  obtain ⟨u, hu⟩ := w.there
  rw [hp] at hu; cases hu
theorem s_setF {i : Nat} {x : Str} {pos' : Pos} (hN : X.N.Nodup) (hi : X.N[i]? = some x) (hx : Loc X.env.scope x) (he : PE X e (tF X.K f)) (hs : swapsWith e (some (.Name x pos')) pos.line X.env = pure false := by rfl) (hf : X.fn x = true ∨ X.env.scope.names.lookup x = some .local := by first | exact .inl rfl | exact .inr rfl | assumption) :
    PS X (.Assign [.Name x pos'] e pos) (tS X.K (dSetF i f)) := ps_imp (ps_set hN hi hx he hs hf) fun D σ H ⟨dr, F0, H0, F, env, s, S, r, q⟩ =>
  ⟨dr, H0, F, env, s, r, Cm.All.mono (by
    intro d k p F' H' S' T' hp nf o
    refine k _ F' H' T' (S.trans S' T') (r.newOwn S' s hp ?_ nf o)
    cases z : H0 p with
    | none => rfl
    | some u => have := S.keep p u (not_dr s hp) z; rw [hp] at this; cases this) (Cm.all_bind.mp q)⟩
end
end Fs

set_option Elab.async false
set_option linter.all false
set_option maxRecDepth 100000
set_option maxHeartbeats 2000000
set_option autoImplicit false
namespace Fs
open PySem PySem.Spec PyProof.Rows L2

/-! ### targets -/
abbrev DTg := D → Env → Cm Env
abbrev DTgs := List D → Env → Cm Env
/-- slots outside is stay -/
def Keeps (is : List Nat) (σ σ' : L2.St) : Prop := σ'.length = σ.length ∧ ∀ j, j ∉ is → σ'[j]? = σ[j]?
def tG (K : PySem.W.Frag) (is : List Nat) (g : DTg) : TG := fun v σ H Q => ∃ dr B F env d, Stt dr F H ∧ Rs K dr B F H σ env ∧ Rp K dr F v d ∧
  (g d env).All fun env' => ∀ σ', Rs K dr B F H σ' env' → Keeps is σ σ' → Q σ' H
def tGs (K : PySem.W.Frag) (is : List Nat) (g : DTgs) : TGs := fun vs σ H Q => ∃ dr B F env ds, Stt dr F H ∧ Rs K dr B F H σ env ∧ DpAll K F vs ds ∧
  (g ds env).All fun env' => ∀ σ', Rs K dr B F H σ' env' → Keeps is σ σ' → Q σ' H
def gN (i : Nat) : DTg := fun d env => .ret (env.set i (.val d))
def gsNil : DTgs := fun ds env => match ds with
  | [] => .ret env
  | _ => .bad
def gsCons (g : DTg) (gs : DTgs) : DTgs := fun ds env => match ds with
  | d :: r => (g d env).bind fun env' => gs r env'
  | [] => .bad
def gTp (n : Nat) (gs : DTgs) : DTg := fun d env => match d with
  | .tuple ds => if ds.length = n then gs ds env else .bad
  | _ => .bad
theorem pg_imp {X : Cx} {e : Expr} {t t' : TG} (h : PG X e t) (i : ∀ v σ H Q, t' v σ H Q → t v σ H Q) : PG X e t' := ⟨fun p s σ H v u Q I r q => h.run p s σ H v u Q I r (i _ _ _ _ q)⟩
theorem pgs_imp {X : Cx} {e : List Expr} {t t' : TGs} (h : PGs X e t) (i : ∀ v σ H Q, t' v σ H Q → t v σ H Q) : PGs X e t' := ⟨fun p s σ H v u Q I r q => h.run p s σ H v u Q I r (i _ _ _ _ q)⟩
theorem Keeps.refl (is : List Nat) (σ : L2.St) : Keeps is σ σ := ⟨rfl, fun _ _ => rfl⟩
theorem keeps_set (i : Nat) (σ : L2.St) (o : Option V) : Keeps [i] σ (σ.set i o) := ⟨List.length_set, fun j hj => List.getElem?_set_ne (fun e => hj (by simp [e]))⟩
theorem Keeps.trans {is js : List Nat} {σ σ1 σ2 : L2.St} (a : Keeps is σ σ1) (b : Keeps js σ1 σ2) : Keeps (is ++ js) σ σ2 :=
  ⟨b.1.trans a.1, fun j hj => (b.2 j fun z => hj (List.mem_append_right _ z)).trans (a.2 j fun z => hj (List.mem_append_left _ z))⟩
section
variable {X : Cx} {e a b c : Expr} {es : List Expr} {f f1 f2 f3 : DE} {fs : DEs} {t u : DT} {pos : Pos} {is js : List Nat} {g : DTg} {gs : DTgs}
theorem g_name {i : Nat} {x : Str} (hN : X.N.Nodup) (hi : X.N[i]? = some x) (hx : Loc X.env.scope x) (hf : X.fn x = true ∨ X.env.scope.names.lookup x = some .local := by first | exact .inl rfl | exact .inr rfl | assumption) : PG X (.Name x pos) (tG X.K [i] (gN i)) :=
  pg_imp (pg_name hN hi hx hf) fun v σ H Q ⟨dr, B, F, env, d, s, r, rv, q⟩ => q _ (r.setVal i rv) (keeps_set i σ _)
theorem gs_nil : PGs X [] (tGs X.K [] gsNil) := pgs_imp pgs_nil fun vs σ H Q ⟨dr, B, F, env, ds, s, r, rv, q⟩ => by
  cases rv with
  | nil => exact ⟨rfl, q σ r (Keeps.refl _ _)⟩
  | cons _ _ => exact q.elim
theorem gs_cons (h1 : PG X e (tG X.K is g)) (h2 : PGs X es (tGs X.K js gs)) (hs : (assignEach (e :: es) X.env).map (·.2) = assign e X.env :: (assignEach es X.env).map (·.2) := by rfl) : PGs X (e :: es) (tGs X.K (is ++ js) (gsCons g gs)) :=
  pgs_imp (pgs_cons h1 h2 hs) fun vs σ H Q ⟨dr, B, F, env, ds, s, r, rv, q⟩ => by
    cases rv with
    | nil => exact q.elim
    | cons r1 r2 =>
      refine ⟨_, _, rfl, dr, B, F, env, _, s, r, .dp r1, Cm.All.mono (fun env' k σ' r' kp => ?_) (Cm.all_bind.mp q)⟩
      exact ⟨dr, B, F, env', _, s, r', r2, Cm.All.mono (fun env2 k2 σ2 r3 kp2 => k2 σ2 r3 (kp.trans kp2)) k⟩
theorem g_tup {k n : Nat} (hc : X.calm = true) (h : PGs X es (tGs X.K is gs)) (hn : (assignEach es X.env).length = n := by rfl) (hst : (assignEach es X.env).findIdx? (·.1) = none := by rfl) : PG X (.Tuple es k pos) (tG X.K is (gTp n gs)) :=
  pg_imp (pg_tup hc h hn hst) fun v σ H Q ⟨dr, B, F, env, d, s, r, rv, q⟩ => by
    cases d with
    | tuple ds =>
      cases rv with
      | dp z =>
        cases z with
        | tup hs ha =>
          have q' : (if ds.length = n then gs ds env else .bad).All _ := q
          by_cases hl : ds.length = n
          · rw [if_pos hl] at q'
            exact ⟨_, _, rfl, sqt_up s.sub hs, (dpa_len ha).trans hl, dr, B, F, env, ds, s, r, ha, q'⟩
          · rw [if_neg hl] at q'; exact q'.elim
    | none => exact q.elim
    | bool _ => exact q.elim
    | int _ => exact q.elim
    | str _ => exact q.elim
    | list _ => exact q.elim
    | dict _ => exact q.elim
/-- target = value -/
def dAsg (f : DE) (g : DTg) : DS := fun env => (f env).bind fun d => (g d env).bind fun env' => .ret (.nx env')
theorem s_asg {tg : Expr} (he : PE X e (tE X.K f)) (hg : PG X tg (tG X.K is g)) (hs : swapsWithSole [tg] e pos.line X.env = pure false := by rfl) (hw : swappedStores [tg] e X.env = pure none := by rfl)
    (h1 : (assignEach [tg] X.env).map (·.2) = [assign tg X.env] := by rfl) : PS X (.Assign [tg] e pos) (tS X.K (dAsg f g)) :=
  ps_imp (ps_asg he hg hs hw h1) fun D σ H ⟨dr, F0, H0, F, env, s, S, r, q⟩ => ⟨dr, H0, F, env, s, r, Cm.All.mono (by
    intro d k v F' H' S' T' rv
    exact ⟨dr, H0, F', env, d, T', r.step S', rv, Cm.All.mono (fun env' k2 σ' r' kp => k2 σ' F' H' T' (S.trans S' T') r') (Cm.all_bind.mp k)⟩) (Cm.all_bind.mp q)⟩
/-- a, b = x, y: two plain names -/
def dPar (i j : Nat) (f1 f2 : DE) : DS := fun env => (f1 env).bind fun d1 => (f2 env).bind fun d2 => .ret (.nx ((env.set i (.val d1)).set j (.val d2)))
theorem s_par {i j : Nat} {x y : Str} {px py pt : Pos} {kt k2 pt2} (hc : X.calm = true) (hN : X.N.Nodup) (hi : X.N[i]? = some x) (hj : X.N[j]? = some y) (hij : i ≠ j)
    (hx : X.env.scope.names.lookup x = some .local) (hy : X.env.scope.names.lookup y = some .local) (ha : PE X a (tE X.K f1)) (hb : PE X b (tE X.K f2))
    (hw : swappedStores [.Tuple [.Name x px, .Name y py] kt pt] (.Tuple [a, b] k2 pt2) X.env = pure (some [x, y]))
    (hst : starEach (a :: b :: []) X.env = (false, eval a X.env) :: starEach (b :: []) X.env := by rfl) (hst2 : starEach (b :: []) X.env = (false, eval b X.env) :: starEach [] X.env := by rfl)
    (hs : swapsWithSole [.Tuple [.Name x px, .Name y py] kt pt] (.Tuple [a, b] k2 pt2) pos.line X.env = pure false := by rfl) :
    PS X (.Assign [.Tuple [.Name x px, .Name y py] kt pt] (.Tuple [a, b] k2 pt2) pos) (tS X.K (dPar i j f1 f2)) :=
  ps_imp (ps_par hc hN hi hj hij hx hy (a_cons ha (a_cons hb a_nil hst2) hst) hw hs) fun D σ H ⟨dr, F0, H0, F, env, s, S, r, q⟩ => by
    refine ⟨dr, H0, F, env, s, r, Cm.all_bind.mpr (Cm.All.mono ?_ (Cm.all_bind.mp q))⟩
    intro d1 k1
    refine Cm.all_bind.mpr (Cm.all_bind.mpr (Cm.All.mono ?_ (Cm.all_bind.mp k1)))
    intro d2 k2 vs F' H' S' T' rv
    cases rv with
    | cons r1 rv =>
      cases rv with
      | cons r2 rv =>
        cases rv
        exact ⟨_, _, rfl, k2 _ F' H' T' (S.trans S' T') (((r.step S').setVal i r1).setVal j r2)⟩
end

/-! ### what is walked -/
structure ItOk (K : PySem.W.Frag) (dr : Dr) (J : It) (items : List D) (F0 : Hp) : Prop where
  stop : ∀ (F H : Hp) (i : Nat), (∀ a o, F0 a = some o → F a = some o) → Stt dr F H → items.length ≤ i → J.stop i H
  go : ∀ (F H : Hp) (i : Nat) (d : D), (∀ a o, F0 a = some o → F a = some o) → Stt dr F H → items[i]? = some d →
    J.go i H ∧ ∀ x H2, J.yld i H x H2 → ∃ F2, Step dr F H F2 H2 ∧ Stt dr F2 H2 ∧ Rp K dr F2 x d
def tI (K : PySem.W.Frag) (f : DEs) : TI := fun σ H R => ∃ dr B F env, Stt dr F H ∧ Rs K dr B F H σ env ∧
  (f env).All fun items => ∀ J F' H', Step dr F H F' H' → Stt dr F' H' → ItOk K dr J items F' → R J H'
theorem pi_imp {X : Cx} {tg e : Expr} {t t' : TI} (h : PI X tg e t) (i : ∀ σ H Q, t' σ H Q → t σ H Q) : PI X tg e t' := ⟨fun p s σ H R I q => h.run p s σ H R I (i _ _ _ q)⟩
def iSeq (K : PySem.W.Frag) (tl : TE) : TI := fun σ H R => tl σ H fun x H1 => ∃ a, x = .ref a ∧ (((∃ xs, SqL K H1 a xs) ∧ R (Itl K a) H1) ∨ ((∃ xs, SqT K H1 a xs) ∧ R (Itt K a) H1))
theorem pi_seq {X : Cx} {tg l : Expr} {tl : TE} (hl : PE X l tl) : PI X tg l (iSeq X.K tl) := by
  refine ⟨fun pins s σ H R I h => ?_⟩
  refine thn (hl.run pins s σ H _ I h) fun v s1 ⟨x, H1, I1, r1, q1⟩ => ?_
  obtain ⟨a, e, q⟩ := q1
  subst e
  cases r1
  rcases q with ⟨⟨xs, hq⟩, q⟩ | ⟨⟨xs, hq⟩, q⟩
  · obtain ⟨its, rv, p, hz⟩ := I1.list hq
    refine wpAny_pyIter_list p.isList ?_
    refine ⟨s1.heap.objs.size, [s1.heap.objs.size], _, _, H1, rfl, I1.kept (t' := s1.toks) fun b o e => Heap.get?_push_of_some _ e, turn_list a _, ⟨_, Heap.get?_push_size _ rfl, rfl, rfl⟩, fun b hb => ?_, q⟩
    have e : b = s1.heap.objs.size := by simpa using hb
    subst e
    exact I1.fpOk (Nat.le_refl _) (I1.hok.fresh (Nat.le_refl _))
  · obtain ⟨its, rv, p, hz⟩ := I1.tuple hq
    refine wpAny_pyIter_tuple (show s1.heap.IsTuple a its.toArray from p) ?_
    refine ⟨s1.heap.objs.size, [s1.heap.objs.size], _, _, H1, rfl, I1.kept (t' := s1.toks) fun b o e => Heap.get?_push_of_some _ e, turn_tuple a _, ⟨_, Heap.get?_push_size _ rfl, rfl, rfl⟩, fun b hb => ?_, q⟩
    have e : b = s1.heap.objs.size := by simpa using hb
    subst e
    exact I1.fpOk (Nat.le_refl _) (I1.hok.fresh (Nat.le_refl _))
theorem itok_list {K : PySem.W.Frag} {dr : Dr} {F : Hp} {a : Addr} {xs : List V} {ds : List D} (h : SqL K F a xs) (ha : DpAll K F xs ds) : ItOk K dr (Itl K a) ds F where
  stop := fun F1 H1 i up s hi => ⟨xs, sql_up s.sub (sql_up up h), by rw [dpa_len ha]; exact hi⟩
  go := fun F1 H1 i d up s hd => by
    obtain ⟨v, hv, dv⟩ := dpa_get ha hd
    have hq := sql_up s.sub (sql_up up h)
    refine ⟨⟨xs, v, hq, hv⟩, fun x H2 y => ?_⟩
    obtain ⟨e, y⟩ := y
    subst e
    have := y xs hq
    rw [hv] at this
    cases this
    exact ⟨F1, .refl, s, .dp (dp_up up _ _ dv)⟩
theorem itok_tup {K : PySem.W.Frag} {dr : Dr} {F : Hp} {a : Addr} {xs : List V} {ds : List D} (h : SqT K F a xs) (ha : DpAll K F xs ds) : ItOk K dr (Itt K a) ds F where
  stop := fun F1 H1 i up s hi => ⟨xs, sqt_up s.sub (sqt_up up h), by rw [dpa_len ha]; exact hi⟩
  go := fun F1 H1 i d up s hd => by
    obtain ⟨v, hv, dv⟩ := dpa_get ha hd
    have hq := sqt_up s.sub (sqt_up up h)
    refine ⟨⟨xs, v, hq, hv⟩, fun x H2 y => ?_⟩
    obtain ⟨e, y⟩ := y
    subst e
    have := y xs hq
    rw [hv] at this
    cases this
    exact ⟨F1, .refl, s, .dp (dp_up up _ _ dv)⟩
def dItems (f : DE) : DEs := fun env => (f env).bind fun d => match d with
  | .list ds => .ret ds
  | .tuple ds => .ret ds
  | _ => .bad
section
variable {X : Cx} {tg e a b c : Expr} {es : List Expr} {f f1 f2 f3 : DE} {fs : DEs} {t u : DT} {pos : Pos} {is js : List Nat} {g : DTg} {gs : DTgs} {s s1 s2 : DS}
theorem i_seq (h : PE X e (tE X.K f)) : PI X tg e (tI X.K (dItems f)) := pi_imp (pi_seq h) fun σ H R ⟨dr, B, F, env, s, r, q⟩ => ⟨dr, B, F, env, s, r, Cm.All.mono (by
  intro d k v F' H' S' T' rv
  cases d with
  | list ds =>
    cases rv with
    | dp z =>
      cases z with
      | lst hs ha => exact ⟨_, rfl, .inl ⟨⟨_, sql_up T'.sub hs⟩, k _ F' H' S' T' (itok_list hs ha)⟩⟩
  | tuple ds =>
    cases rv with
    | dp z =>
      cases z with
      | tup hs ha => exact ⟨_, rfl, .inr ⟨⟨_, sqt_up T'.sub hs⟩, k _ F' H' S' T' (itok_tup hs ha)⟩⟩
  | none => exact k.elim
  | bool _ => exact k.elim
  | int _ => exact k.elim
  | str _ => exact k.elim
  | dict _ => exact k.elim) (Cm.all_bind.mp q)⟩
def rng (lo : Int) (n : Nat) : List D := (List.range n).map fun (i : Nat) => PyData.int (lo + (i : Int))
theorem rng_get {lo : Int} {n i : Nat} {d : D} (h : (rng lo n)[i]? = some d) : i < n ∧ d = .int (lo + (i : Int)) := by
  unfold rng at h
  rw [List.getElem?_map] at h
  by_cases hi : i < n
  · rw [List.getElem?_range hi] at h
    cases h
    exact ⟨hi, rfl⟩
  · rw [List.getElem?_eq_none (by simpa using hi)] at h; cases h
theorem itok_rng {K : PySem.W.Frag} {dr : Dr} {F : Hp} (lo : Int) (n : Nat) : ItOk K dr (Itr lo n) (rng lo n) F where
  stop := fun F1 H1 i up s hi => by
    have : (rng lo n).length = n := by simp [rng]
    show n ≤ i
    omega
  go := fun F1 H1 i d up s hd => by
    obtain ⟨h1, rfl⟩ := rng_get hd
    refine ⟨h1, fun x H2 y => ?_⟩
    obtain ⟨e, y⟩ := y
    subst e
    subst y
    exact ⟨F1, .refl, s, .dp (.int _)⟩
def dRng1 (fs : DEs) : DEs := fun env => (fs env).bind fun ds => match ds with
  | [.int j] => if -4611686018427387904 ≤ j ∧ j < 4611686018427387904 then .ret (rng 0 j.toNat) else .bad
  | _ => .bad
def dRng2 (fs : DEs) : DEs := fun env => (fs env).bind fun ds => match ds with
  | [.int i, .int j] => if -4611686018427387904 ≤ i ∧ i < 4611686018427387904 ∧ -4611686018427387904 ≤ j ∧ j < 4611686018427387904 then .ret (rng i (j - i).toNat) else .bad
  | _ => .bad
theorem rp_int {K : PySem.W.Frag} {dr : Dr} {F : Hp} {v : V} {i : Int} (h : Rp K dr F v (.int i)) : v = .int i := by
  cases h with
  | dp z => cases z; rfl
theorem bp_int {K : PySem.W.Frag} {dr : Dr} {F H : Hp} {v : V} {i : Int} (h : Bp K dr F H v (.int i)) : v = .int i := by
  cases h with
  | r h => exact rp_int h
  | own _ _ h => exact h.elim
theorem i_rng1 {p : Pos} (hg : Gl X "range") (hm : X.mg "range" = none) (ha : PA X [a] (tA X.K fs)) (hs : starEach [a] X.env = [(false, eval a X.env)] := by rfl) : PI X tg (.Call (.Name "range" p) [a] [] pos) (tI X.K (dRng1 fs)) :=
  pi_imp (pi_range1 hg hm ha hs) fun σ H R ⟨dr, B, F, env, s, r, q⟩ => ⟨dr, B, F, env, s, r, Cm.All.mono (by
    intro ds k vs F' H' S' T' rv
    match ds, rv with
    | [.int j], .cons r1 .nil =>
      cases rp_int r1
      have k' : (if -4611686018427387904 ≤ j ∧ j < 4611686018427387904 then Cm.ret (rng 0 j.toNat) else .bad).All _ := k
      by_cases hj : -4611686018427387904 ≤ j ∧ j < 4611686018427387904
      · rw [if_pos hj] at k'
        exact ⟨j, rfl, by omega, by omega, k' _ F' H' S' T' (itok_rng 0 _)⟩
      · rw [if_neg hj] at k'; exact k'.elim
    | [], _ => exact k.elim
    | [.none], _ => exact k.elim
    | [.bool _], _ => exact k.elim
    | [.str _], _ => exact k.elim
    | [.list _], _ => exact k.elim
    | [.tuple _], _ => exact k.elim
    | [.dict _], _ => exact k.elim
    | .int _ :: _ :: _, _ => exact k.elim
    | .none :: _ :: _, _ => exact k.elim
    | .bool _ :: _ :: _, _ => exact k.elim
    | .str _ :: _ :: _, _ => exact k.elim
    | .list _ :: _ :: _, _ => exact k.elim
    | .tuple _ :: _ :: _, _ => exact k.elim
    | .dict _ :: _ :: _, _ => exact k.elim) (Cm.all_bind.mp q)⟩
theorem i_rng2 {p : Pos} (hg : Gl X "range") (hm : X.mg "range" = none) (ha : PA X [a, b] (tA X.K fs)) (hs : starEach [a, b] X.env = [(false, eval a X.env), (false, eval b X.env)] := by rfl) (hs2 : starEach [b] X.env = [(false, eval b X.env)] := by rfl) : PI X tg (.Call (.Name "range" p) [a, b] [] pos) (tI X.K (dRng2 fs)) :=
  pi_imp (pi_range2 hg hm ha hs hs2) fun σ H R ⟨dr, B, F, env, s, r, q⟩ => ⟨dr, B, F, env, s, r, Cm.All.mono (by
    intro ds k vs F' H' S' T' rv
    split at k
    · rename_i i j
      cases rv with
      | cons r1 rv =>
        cases rv with
        | cons r2 rv =>
          cases rv
          cases rp_int r1
          cases rp_int r2
          split at k
          · rename_i hj
            exact ⟨i, j, rfl, by omega, k _ F' H' S' T' (itok_rng i _)⟩
          · exact k.elim
    · exact k.elim) (Cm.all_bind.mp q)⟩

/-! ### for -/
def forGo (g : DTg) (s : DS) : List D → DS
  | [], env => .ret (.nx env)
  | d :: ds, env => (g d env).bind fun env1 => (s env1).bind fun o => match o with
    | .nx e => forGo g s ds e
    | .ct e => forGo g s ds e
    | .bk e => .ret (.nx e)
    | .rt d => .ret (.rt d)
def dFor (fi : DEs) (g : DTg) (s : DS) : DS := fun env => (fi env).bind fun items => forGo g s items env
theorem Step.rebase {dr : Dr} {F0 H0 F2 H2 F3 H3 : Hp} (a : Step dr F0 H0 F2 H2) (b : Step dr F2 H0 F3 H3) : Step dr F0 H0 F3 H3 :=
  ⟨fun x o h => b.up x o (a.up x o h), b.keep, fun x o h => (b.new x o h).elim (a.new x o) .inr⟩
theorem Step.here {dr : Dr} {F0 H0 F2 H2 : Hp} (a : Step dr F0 H0 F2 H2) : Step dr F2 H0 F2 H2 := ⟨fun _ _ h => h, a.keep, fun _ _ h => .inl h⟩
theorem s_for {iter : Expr} {body : List Stmt} {fi : DEs} (hp : PassesOwn (model X.prog X.w) X.A X.env X.xe) (hc : X.calm = true) (hi : PI X tg iter (tI X.K fi)) (hg : PG X tg (tG X.K is g)) (hb : PSs X body (tS X.K s))
    (hs : ∀ x, foldedSetIterable iter X.env x = pure x := by intro _; rfl) : PS X (.For tg iter body [] pos) (tS X.K (dFor fi g s)) :=
  ps_imp (ps_for hp hc hi hg hb hs) fun Dn σ H ⟨dr, F0, H0, F, env, T0, S, r, q⟩ => ⟨dr, H0, F, env, T0, r, Cm.All.mono (by
    intro items k J F' H' S' T' ok
    refine ⟨fun i m σ1 H1 => m = items.length - i ∧ i ≤ items.length ∧ ∃ F1 env1, Stt dr F1 H1 ∧ Step dr F0 H0 F1 H1 ∧ (∀ a o, F' a = some o → F1 a = some o) ∧ Rs X.K dr H0 F1 H1 σ1 env1 ∧ (forGo g s (items.drop i) env1).All (Post X.K dr F0 H0 Dn),
      ⟨items.length, by simp, Nat.zero_le _, F', env, T', S.trans S' T', fun _ _ h => h, r.step S', k⟩, ?_⟩
    rintro i m σ1 H1 ⟨rfl, hi, F1, env1, T1, S1, up1, r1, q1⟩
    by_cases hlt : i < items.length
    · have hd : items[i]? = some items[i] := by simp [hlt]
      obtain ⟨go, yl⟩ := ok.go F1 H1 i _ up1 T1 hd
      rw [List.drop_eq_getElem_cons hlt] at q1
      refine .inr ⟨go, fun σ2 H2 => ∃ F2 env2, Stt dr F2 H2 ∧ Step dr F0 H0 F2 H2 ∧ (∀ a o, F' a = some o → F2 a = some o) ∧ Rs X.K dr H0 F2 H2 σ2 env2 ∧ (forGo g s (items.drop (i + 1)) env2).All (Post X.K dr F0 H0 Dn), ?_, fun x H2 y => ?_⟩
      · rintro σ2 H2 ⟨F2, env2, h1, h2, h3, h4, h5⟩
        exact ⟨items.length - (i + 1), by omega, rfl, hlt, F2, env2, h1, h2, h3, h4, h5⟩
      · obtain ⟨F2, S2, T2, rv⟩ := yl x H2 y
        refine ⟨dr, H0, F2, env1, _, T2, r1.step S2, rv, Cm.All.mono ?_ (Cm.all_bind.mp q1)⟩
        intro env2 k2 σ2 r2 kp
        have SB := S1.trans S2 T2
        have up2 : ∀ a o, F' a = some o → F2 a = some o := fun a o h => S2.up a o (up1 a o h)
        refine ⟨dr, F2, H0, F2, env2, T2, SB.here, r2, Cm.All.mono ?_ (Cm.all_bind.mp k2)⟩
        intro o k3
        cases o with
        | nx e => exact fun σ3 F3 H3 T3 S3 r3 => ⟨F3, e, T3, SB.rebase S3, fun a o h => S3.up a o (up2 a o h), r3, k3⟩
        | ct e => exact fun σ3 F3 H3 T3 S3 r3 => ⟨F3, e, T3, SB.rebase S3, fun a o h => S3.up a o (up2 a o h), r3, k3⟩
        | bk e => exact fun σ3 F3 H3 T3 S3 r3 => k3 σ3 F3 H3 T3 (SB.rebase S3) r3
        | rt d => exact fun v F3 H3 T3 S3 r3 => k3 v F3 H3 T3 (SB.rebase S3) r3
    · have e : i = items.length := by omega
      subst e
      rw [List.drop_length] at q1
      exact .inl ⟨ok.stop F1 H1 _ up1 T1 (Nat.le_refl _), q1 σ1 F1 H1 T1 S1 r1⟩) (Cm.all_bind.mp q)⟩

/-! ### while -/
def whileGo (t : DT) (s : DS) : Nat → DS
  | 0, _ => .bad
  | n + 1, env => (t env).bind fun b => if b = true then (s env).bind fun o => match o with
      | .nx e => whileGo t s n e
      | .ct e => whileGo t s n e
      | .bk e => .ret (.nx e)
      | .rt d => .ret (.rt d)
    else .ret (.nx env)
theorem s_while (n : Nat) {c : Expr} {body : List Stmt} (hp : PassesOwn (model X.prog X.w) X.A X.env X.xe) (hc : PT X c (tT X.K t)) (hb : PSs X body (tS X.K s)) : PS X (.While c body [] pos) (tS X.K (whileGo t s n)) :=
  ps_imp (ps_while hp hc hb) fun Dn σ H ⟨dr, F0, H0, F, env, T0, S, r, q⟩ => by
    refine ⟨fun m σ1 H1 => ∃ F1 env1, Stt dr F1 H1 ∧ Step dr F0 H0 F1 H1 ∧ Rs X.K dr H0 F1 H1 σ1 env1 ∧ (whileGo t s m env1).All (Post X.K dr F0 H0 Dn), ⟨n, F, env, T0, S, r, q⟩, ?_⟩
    rintro m σ1 H1 ⟨F1, env1, T1, S1, r1, q1⟩
    cases m with
    | zero => exact q1.elim
    | succ m =>
      refine ⟨dr, H0, F1, env1, T1, r1, Cm.All.mono ?_ (Cm.all_bind.mp q1)⟩
      intro b k F2 H2 S2 T2
      have SB := S1.trans S2 T2
      cases b with
      | false => exact k σ1 F2 H2 T2 SB (r1.step S2)
      | true =>
        refine ⟨fun σ3 H3 => ∃ F3 env3, Stt dr F3 H3 ∧ Step dr F0 H0 F3 H3 ∧ Rs X.K dr H0 F3 H3 σ3 env3 ∧ (whileGo t s m env3).All (Post X.K dr F0 H0 Dn), fun σ3 H3 w => ⟨m, Nat.lt_succ_self m, w⟩, ?_⟩
        refine ⟨dr, F0, H0, F2, env1, T2, SB, r1.step S2, Cm.All.mono ?_ (Cm.all_bind.mp k)⟩
        intro o k3
        cases o with
        | nx e => exact fun σ3 F3 H3 T3 S3 r3 => ⟨F3, e, T3, S3, r3, k3⟩
        | ct e => exact fun σ3 F3 H3 T3 S3 r3 => ⟨F3, e, T3, S3, r3, k3⟩
        | bk e => exact fun σ3 F3 H3 T3 S3 r3 => k3 σ3 F3 H3 T3 S3 r3
        | rt d => exact fun v F3 H3 T3 S3 r3 => k3 v F3 H3 T3 S3 r3

/-! ### lists changed -/
def dApp (i : Nat) (f : DE) : DS := fun env => match env[i]? with
  | some (.own (.list ds)) => (f env).bind fun d => if ds.length < 1000000 ∧ flatD d = true then .ret (.nx (env.set i (.own (.list (ds ++ [d]))))) else .bad
  | _ => .bad
theorem dpa_one {K : PySem.W.Frag} {F : Hp} {v : V} {d : D} (h : Dp K F v d) : DpAll K F [v] [d] := .cons h .nil
theorem rp_flat {K : PySem.W.Frag} {dr : Dr} {F : Hp} {v : V} {d : D} (h : Rp K dr F v d) (n : flatD d = true) : Dp K F v d := rp_dp h fun kvs e => by rw [e] at n; exact absurd n (by simp [flatD])
theorem s_app {i : Nat} {o : Expr} {apos epos : Pos} (ho : PE X o (tVar i)) (he : PE X e (tE X.K f))
    (h : ∀ {to : TE} {t : TA}, PE X o to → PA X [e] t → PE X (.Call (.Attribute o "append" apos) [e] [] epos) (tBM X.K "list" rAppend to t)) (hsw : swapsWith (.Call (.Attribute o "append" apos) [e] [] epos) none pos.line X.env = pure false := by rfl)
    (hst : starEach (e :: []) X.env = (false, eval e X.env) :: starEach [] X.env := by rfl) :
    PS X (.Expr (.Call (.Attribute o "append" apos) [e] [] epos) pos) (tS X.K (dApp i f)) :=
  ps_imp (ps_expr (h ho (a_cons he a_nil hst)) hsw) fun Dn σ H ⟨dr, F0, H0, F, env, T0, S, r, q⟩ => by
    unfold dApp at q
    split at q
    · rename_i ds hi
      obtain ⟨o1, ho1, p, hq, hB, hF, hn, vs, hv, ha⟩ := r.ok i _ hi
      subst hq
      refine ⟨_, ho1, .inl ⟨rfl, vs, .inl (.inl hv)⟩, dr, H0, F, env, T0, r, ?_⟩
      refine Cm.all_bind.mpr (Cm.All.mono ?_ (Cm.all_bind.mp q))
      intro d k us F' H' S' T' rv
      cases rv with
      | cons r1 rv =>
        cases rv
        split at k
        · rename_i hc
          have hv' := S'.keep p _ hn hv
          refine ⟨p, vs, _, rfl, rfl, hv', by rw [dpa_len ha]; exact Nat.lt_of_lt_of_le hc.1 (by decide), ?_⟩
          have r' := r.step S'
          obtain ⟨R2, T2, hb⟩ := r'.write T' (o := .lst (vs ++ [_])) (d' := .list (ds ++ [d])) hi ho1 ⟨_, upd_same, dpa_app (dpa_up S'.up _ _ ha) (dpa_one (rp_flat r1 hc.2))⟩
          exact k σ F' _ T2 (step_write (S.trans S' T') hB) R2
        · exact k.elim
    · exact q.elim
/-- a list whose object is its own alone: new, or a slot's -/
def tX (K : PySem.W.Frag) (f : DE) : TE := fun σ H Q => ∃ dr B F env, Stt dr F H ∧ Rs K dr B F H σ env ∧
  (f env).All fun d => ∀ p F' H', Step dr F H F' H' → Stt dr F' H' → (∃ ds vs, d = .list ds ∧ H' p = some (.lst vs) ∧ DpAll K F' vs ds) → Q (.ref p) H'
theorem x_f (h : PE X e (tF X.K f)) : PE X e (tX X.K (dOnlyL f)) := pe_imp h fun σ H Q ⟨dr, B, F, env, T0, r, q⟩ => ⟨dr, B, F, env, T0, r, Cm.All.mono (by
  intro d k p F1 H1 S1 T1 hp nf o
  rcases dict_no o with ⟨ds, rfl⟩ | ⟨kvs, rfl⟩
  · obtain ⟨vs, e1, ha⟩ := o
    exact k p F1 H1 S1 T1 ⟨ds, vs, rfl, e1, ha⟩
  · exact k.elim) (Cm.all_bind.mp q)⟩
def dPeekOwn (i : Nat) : DE := fun env => match env[i]? with
  | some (.own (.list ds)) => .ret (.list ds)
  | _ => .bad
theorem x_var {i : Nat} (h : PE X e (tVar i)) : PE X e (tX X.K (dPeekOwn i)) := pe_imp h fun σ H Q ⟨dr, B, F, env, T0, r, q⟩ => by
  unfold dPeekOwn at q
  split at q
  · rename_i d hd
    obtain ⟨o, ho, p, hv, hb, hf, hn, vs, hv2, ha⟩ := r.ok i _ hd
    subst hv
    exact ⟨_, ho, q _ F H .refl T0 ⟨_, vs, rfl, hv2, ha⟩⟩
  · exact q.elim
theorem x_ifExp {c : Expr} (hc : PT X c (tT X.K t)) (ha : PE X a (tX X.K f1)) (hb : PE X b (tX X.K f2)) : PE X (.IfExp c a b pos) (tX X.K (dIf t f1 f2)) :=
  pe_imp (pe_ifExp hc ha hb) fun σ H Q ⟨dr, B, F, env, s, r, q⟩ => ⟨dr, B, F, env, s, r, Cm.All.mono (fun c k F1 H1 S1 T1 => by
    cases c with
    | true => exact ⟨dr, B, F1, env, T1, r.step S1, Cm.All.mono (fun d k3 v F3 H3 S3 T3 => k3 v F3 H3 (S1.trans S3 T3) T3) k⟩
    | false => exact ⟨dr, B, F1, env, T1, r.step S1, Cm.All.mono (fun d k3 v F3 H3 S3 T3 => k3 v F3 H3 (S1.trans S3 T3) T3) k⟩) (Cm.all_bind.mp q)⟩
def dExt (i : Nat) (f : DE) : DS := fun env => match env[i]? with
  | some (.own (.list ds)) => (f env).bind fun d => match d with
    | .list es => if ds.length + es.length < 1000000 then .ret (.nx (env.set i (.own (.list (ds ++ es))))) else .bad
    | _ => .bad
  | _ => .bad
theorem s_ext {i : Nat} {o : Expr} {apos epos : Pos} (ho : PE X o (tVar i)) (he : PE X e (tX X.K f))
    (h : ∀ {to : TE} {t : TA}, PE X o to → PA X [e] t → PE X (.Call (.Attribute o "extend" apos) [e] [] epos) (tBM X.K "list" rExtend to t)) (hsw : swapsWith (.Call (.Attribute o "extend" apos) [e] [] epos) none pos.line X.env = pure false := by rfl)
    (hst : starEach (e :: []) X.env = (false, eval e X.env) :: starEach [] X.env := by rfl) :
    PS X (.Expr (.Call (.Attribute o "extend" apos) [e] [] epos) pos) (tS X.K (dExt i f)) :=
  ps_imp (ps_expr (h ho (pa_cons he pa_nil hst)) hsw) fun Dn σ H ⟨dr, F0, H0, F, env, T0, S, r, q⟩ => by
    unfold dExt at q
    split at q
    · rename_i ds hi
      obtain ⟨o1, ho1, p, hq, hB, hF, hn, vs, hv, ha⟩ := r.ok i _ hi
      subst hq
      refine ⟨_, ho1, .inl ⟨rfl, vs, .inl (.inl hv)⟩, dr, H0, F, env, T0, r, Cm.All.mono ?_ (Cm.all_bind.mp q)⟩
      intro d k b F' H' S' T' ⟨es, ws, ed, hb, hw⟩
      subst ed
      have k' : (if ds.length + es.length < 1000000 then Cm.ret (Out.nx (env.set i (.own (.list (ds ++ es))))) else .bad).All (Post X.K dr F0 H0 Dn) := k
      split at k'
      · rename_i hc
        have hv' := S'.keep p _ hn hv
        refine ⟨p, b, vs, ws, rfl, rfl, hv', hb, by rw [dpa_len ha, dpa_len hw]; exact Nat.le_trans (Nat.le_of_lt hc) (by decide), ?_⟩
        have r' := r.step S'
        obtain ⟨R2, T2, hb2⟩ := r'.write T' (o := .lst (vs ++ ws)) (d' := .list (ds ++ es)) hi ho1 ⟨_, upd_same, dpa_app (dpa_up S'.up _ _ ha) hw⟩
        exact k' σ F' _ T2 (step_write (S.trans S' T') hB) R2
      · exact k'.elim
    · exact q.elim
/-- xs[j] = e -/
def dSetI (i : Nat) (fj f : DE) : DS := fun env => (f env).bind fun d => match env[i]? with
  | some (.own (.list ds)) => (fj env).bind fun dj => match dj with
    | .int k => match ixN ds.length k with
      | some j => if flatD d = true then .ret (.nx (env.set i (.own (.list (ds.set j d))))) else .bad
      | none => .bad
    | _ => .bad
  | _ => .bad
theorem dpa_set {K : PySem.W.Frag} {F : Hp} {v : V} {d : D} (h : Dp K F v d) : ∀ {vs : List V} {ds : List D} (j : Nat), DpAll K F vs ds → DpAll K F (vs.set j v) (ds.set j d)
  | _, _, _, .nil => .nil
  | _, _, 0, .cons _ t => .cons h t
  | _, _, j + 1, .cons r t => .cons r (dpa_set h j t)
theorem s_setI {i : Nat} {o j : Expr} {pos' : Pos} (ho : PE X o (tVar i)) (hj : PE X j (tE X.K f1)) (he : PE X e (tE X.K f))
    (ha : ∀ v, assign (.Subscript o j pos') X.env v = (do
      let ov ← holding [v] (eval o X.env)
      let iv ← holding [v, ov] (eval j X.env)
      standAt pos'
      holding [v, ov, iv] (setItem ov iv v)
      release [v, ov, iv] []) := by intro _; rfl)
    (hs : swapsWithSole [.Subscript o j pos'] e pos.line X.env = pure false := by rfl) (hw : swappedStores [.Subscript o j pos'] e X.env = pure none := by rfl)
    (h1 : (assignEach [.Subscript o j pos'] X.env).map (·.2) = [assign (.Subscript o j pos') X.env] := by rfl) :
    PS X (.Assign [.Subscript o j pos'] e pos) (tS X.K (dSetI i f1 f)) :=
  ps_imp (ps_asg he (pg_sub ho hj set_list ha) hs hw h1) fun Dn σ H ⟨dr, F0, H0, F, env, T0, S, r, q⟩ => ⟨dr, H0, F, env, T0, r, Cm.All.mono (by
    intro d k v F1 H1 S1 T1 r1
    split at k
    · rename_i ds hi
      have ra := r.step S1
      obtain ⟨o1, ho1, p, hq, hB, hF, hn, vs, hv, hx⟩ := ra.ok i _ hi
      subst hq
      refine ⟨_, ho1, dr, H0, F1, env, T1, ra, Cm.All.mono ?_ (Cm.all_bind.mp k)⟩
      intro dj k2 w F2 H2 S2 T2 r2
      split at k2
      · rename_i kk
        cases rp_int r2
        split at k2
        · rename_i jj hjj
          split at k2
          · rename_i hfl
            have hv' := S2.keep p _ hn hv
            refine ⟨p, vs, kk, jj, rfl, rfl, hv', by rw [dpa_len hx]; exact hjj, ?_⟩
            obtain ⟨R2, T3, hb2⟩ := (ra.step S2).write T2 (o := .lst (vs.set jj v)) (d' := .list (ds.set jj d)) hi ho1 ⟨_, upd_same, dpa_set (dp_up S2.up _ _ (rp_flat r1 hfl)) jj (dpa_up S2.up _ _ hx)⟩
            exact k2 σ F2 _ T3 (step_write ((S.trans S1 T1).trans S2 T2) hB) R2
          · exact k2.elim
        · exact k2.elim
      · exact k2.elim
    · exact k.elim) (Cm.all_bind.mp q)⟩
end
end Fs

set_option Elab.async false
set_option linter.all false
set_option maxRecDepth 100000
set_option maxHeartbeats 2000000
set_option autoImplicit false
namespace Fs
open PySem PySem.Spec PyProof.Rows L2

/-! ### comprehensions -/
def wipeE (env : Env) : List Nat → Env
  | [] => env
  | v :: vs => (wipeE env vs).set v .no
theorem Rs.setNo {K : PySem.W.Frag} {dr : Dr} {B F H : Hp} {σ : L2.St} {env : Env} (r : Rs K dr B F H σ env) (i : Nat) : Rs K dr B F H (σ.set i none) (env.set i .no) where
  len := by rw [List.length_set, List.length_set]; exact r.len
  ok := fun j s e => by
    by_cases hj : i = j
    · subst hj
      by_cases hi : i < env.length
      · rw [List.getElem?_set_self hi] at e
        cases e
        rw [List.getElem?_set_self (by rw [r.len]; exact hi)]
        exact ⟨_, rfl, trivial⟩
      · rw [List.getElem?_eq_none (by simpa using hi)] at e; cases e
    · rw [List.getElem?_set_ne hj] at e
      rw [List.getElem?_set_ne hj]
      exact r.ok j s e
  apart := fun j k p d1 d2 e1 e2 s1 s2 => by
    have aux : ∀ (j : Nat) (d1 : D), (env.set i Slot.no)[j]? = some (Slot.own d1) → i ≠ j := fun j d1 e1 hj => by
      subst hj
      by_cases hi : i < env.length
      · rw [List.getElem?_set_self hi] at e1; cases e1
      · rw [List.getElem?_eq_none (by simpa using hi)] at e1; cases e1
    have n1 := aux j d1 e1
    have n2 := aux k d2 e2
    rw [List.getElem?_set_ne n1] at e1 s1
    rw [List.getElem?_set_ne n2] at e2 s2
    exact r.apart j k p d1 d2 e1 e2 s1 s2
theorem Rs.wipe {K : PySem.W.Frag} {dr : Dr} {B F H : Hp} {σ : L2.St} {env : Env} (r : Rs K dr B F H σ env) : ∀ vs : List Nat, Rs K dr B F H (L2.wipe σ vs) (wipeE env vs)
  | [] => r
  | v :: vs => (Rs.wipe r vs).setNo v
theorem wipe_get (σ : L2.St) (i : Nat) : ∀ vs : List Nat, (L2.wipe σ vs)[i]? = if i ∈ vs then (if i < σ.length then some none else none) else σ[i]?
  | [] => by simp [L2.wipe]
  | v :: vs => by
    unfold L2.wipe
    by_cases h : v = i
    · subst h
      rw [if_pos List.mem_cons_self]
      by_cases hl : v < σ.length
      · rw [if_pos hl, List.getElem?_set_self (by rw [wipe_length]; exact hl)]
      · rw [if_neg hl, List.getElem?_eq_none (by rw [List.length_set, wipe_length]; omega)]
    · rw [List.getElem?_set_ne h, wipe_get σ i vs]
      by_cases hm : i ∈ vs
      · rw [if_pos hm, if_pos (List.mem_cons_of_mem _ hm)]
      · rw [if_neg hm, if_neg (fun z => by rcases List.mem_cons.mp z with z | z; exact h z.symm; exact hm z)]
theorem wipe_keeps {is vs : List Nat} {σ σ' : L2.St} (k : Keeps is (L2.wipe σ vs) σ') (h : ∀ i ∈ is, i ∈ vs) : L2.wipe σ' vs = L2.wipe σ vs := by
  apply List.ext_getElem?
  intro i
  have hl : σ'.length = σ.length := by rw [k.1, wipe_length]
  rw [wipe_get σ' i vs, wipe_get σ i vs, hl]
  by_cases hm : i ∈ vs
  · rw [if_pos hm, if_pos hm]
  · rw [if_neg hm, if_neg hm, k.2 i (fun z => hm (h i z)), wipe_get, if_neg hm]
/-- the items that a comprehension makes, from the left -/
def lcGo (g : DTg) (t : DT) (f : DE) : List D → Env → Cm (List D)
  | [], _ => .ret []
  | d :: ds, env => (g d env).bind fun e1 => (t e1).bind fun b => if b = true then (f e1).bind fun y => if flatD y = true then (lcGo g t f ds env).bind fun ys => .ret (y :: ys) else .bad
    else lcGo g t f ds env
def dLc (fi : DEs) (g : DTg) (t : DT) (f : DE) (vs : List Nat) : DE := fun env => (fi env).bind fun items => if items.length < 1000000 then (lcGo g t f items (wipeE env vs)).bind fun ys => .ret (.list ys) else .bad
def dYes : DT := fun _ => .ret true
section
variable {X : Cx} {tg e a b c elt iter : Expr} {es : List Expr} {f f1 f2 f3 : DE} {fs fi : DEs} {t u : DT} {pos : Pos} {is js : List Nat} {g : DTg} {gs : DTgs} {s s1 s2 : DS}
theorem pts_imp {X : Cx} {e : List Expr} {t t' : TT} (h : PTs X e t) (i : ∀ σ H Q, t' σ H Q → t σ H Q) : PTs X e t' := ⟨fun p s σ H Q I q => h.run p s σ H Q I (i _ _ _ q)⟩
theorem ts_nil : PTs X [] (tT X.K dYes) := pts_imp pts_nil fun σ H Q ⟨dr, B, F, env, s, r, q⟩ => q F H .refl s
theorem ts_one (h : PT X c (tT X.K t)) : PTs X [c] (tT X.K t) := pts_one h
theorem lc_red {K : PySem.W.Frag} {vs0 : List Nat} (hsub : ∀ i ∈ is, i ∈ vs0) {σ : L2.St} {H : Hp} {Q : VK} (h0 : tF K (dLc fi g t f vs0) σ H Q) : tLc (tI K fi) (tG K is g) (tT K t) (tE K f) vs0 σ H Q :=
  let ⟨dr, B, F, env, T0, r, q⟩ := h0
  ⟨dr, B, F, env, T0, r, Cm.All.mono (by
    intro items k J F1 H1 S1 T1 ok1 Dd hD
    split at k
    · rename_i hlen
      have k := Cm.all_bind.mp k
      obtain ⟨S2, T2, nf⟩ := lay_own T1 hD (.lst [])
      have ndD := not_dr T1 hD
      have hD0 : H Dd = none := by
        cases z : H Dd with
        | none => rfl
        | some o => have := S1.keep Dd o ndD z; rw [hD] at this; cases this
      refine ⟨fun i m H2 => m = items.length - i ∧ i ≤ items.length ∧ ∃ F2 acc ds, Stt dr F2 H2 ∧ Step dr F H F2 H2 ∧ (∀ a o, F1 a = some o → F2 a = some o) ∧ F2 Dd = none ∧ H2 Dd = some (.lst acc) ∧ DpAll K F2 acc ds ∧ acc.length ≤ i ∧
          (lcGo g t f (items.drop i) (wipeE env vs0)).All (fun ys => ∀ p F' H', Step dr F H F' H' → Stt dr F' H' → H p = none → F' p = none → OwnAt K F' H' p (.list (ds ++ ys)) → Q (.ref p) H') ∧ Rs K dr B F2 H2 σ env,
        ⟨items.length, by simp, Nat.zero_le _, F1, [], [], T2, S1.trans S2 T2, fun _ _ h => h, nf, upd_same, .nil, Nat.le_refl _, k, (r.step S1).step S2⟩, ?_⟩
      rintro i m H2 ⟨rfl, hi2, F2, acc, ds, T3, S3, up3, nf3, hv3, ha3, hl3, q3, r3⟩
      by_cases hlt : i < items.length
      · have hd : items[i]? = some items[i] := by simp [hlt]
        obtain ⟨go, yl⟩ := ok1.go F2 H2 i _ up3 T3 hd
        rw [List.drop_eq_getElem_cons hlt] at q3
        refine .inr ⟨go, fun H4 => ∃ F4 acc ds, Stt dr F4 H4 ∧ Step dr F H F4 H4 ∧ (∀ a o, F1 a = some o → F4 a = some o) ∧ F4 Dd = none ∧ H4 Dd = some (.lst acc) ∧ DpAll K F4 acc ds ∧ acc.length ≤ i + 1 ∧
          (lcGo g t f (items.drop (i + 1)) (wipeE env vs0)).All (fun ys => ∀ p F' H', Step dr F H F' H' → Stt dr F' H' → H p = none → F' p = none → OwnAt K F' H' p (.list (ds ++ ys)) → Q (.ref p) H') ∧ Rs K dr B F4 H4 σ env, ?_, fun x H4 y => ?_⟩
        · rintro H4 ⟨F4, acc4, ds4, h⟩
          exact ⟨items.length - (i + 1), by omega, rfl, hlt, F4, acc4, ds4, h⟩
        · obtain ⟨F4, S4, T4, rv⟩ := yl x H4 y
          have rw4 := (r3.step S4).wipe vs0
          refine ⟨dr, B, F4, _, _, T4, rw4, rv, Cm.All.mono ?_ (Cm.all_bind.mp q3)⟩
          intro e1 k1 σ1 r1 kp
          refine ⟨wipe_keeps kp hsub, dr, B, F4, e1, T4, r1, Cm.All.mono ?_ (Cm.all_bind.mp k1)⟩
          intro bb k2 F5 H5 S5 T5
          have nf4 : F4 Dd = none := S4.still nf3 hv3
          have hv4 : H4 Dd = some (.lst acc) := S4.keep _ _ ndD hv3
          have nf5 : F5 Dd = none := S5.still nf4 hv4
          have hv5 : H5 Dd = some (.lst acc) := S5.keep _ _ ndD hv4
          have up5 : ∀ a o, F1 a = some o → F5 a = some o := fun a o h => S5.up a o (S4.up a o (up3 a o h))
          have SS5 := (S3.trans S4 T4).trans S5 T5
          have ha5 := dpa_up S5.up _ _ (dpa_up S4.up _ _ ha3)
          cases bb with
          | false => exact ⟨F5, acc, ds, T5, SS5, up5, nf5, hv5, ha5, Nat.le_succ_of_le hl3, k2, (r3.step S4).step S5⟩
          | true =>
            refine ⟨dr, B, F5, e1, T5, r1.step S5, Cm.All.mono ?_ (Cm.all_bind.mp k2)⟩
            intro yd k3 yv F6 H6 S6 T6 ry
            split at k3
            · rename_i hfl
              have nf6 : F6 Dd = none := S6.still nf5 hv5
              have hv6 : H6 Dd = some (.lst acc) := S6.keep _ _ ndD hv5
              refine ⟨acc, hv6, Nat.lt_of_le_of_lt hl3 (Nat.lt_of_lt_of_le (Nat.lt_trans hlt hlen) (by decide)), ?_⟩
              have T7 : Stt dr F6 (upd H6 Dd (.lst (acc ++ [yv]))) := ⟨fun a u e => by rw [upd_ne (ne_of_none e nf6)]; exact T6.sub _ _ e, T6.drw.upd ndD, T6.nodr⟩
              have SS6 := SS5.trans S6 T6
              have rr6 := ((r3.step S4).step S5).step S6
              refine ⟨F6, acc ++ [yv], ds ++ [yd], T7, ⟨SS6.up, fun a u n e => by rw [upd_ne (ne_of_none e hD0)]; exact SS6.keep a u n e, SS6.new⟩, fun a o h => S6.up a o (up5 a o h), nf6, upd_same, dpa_app (dpa_up S6.up _ _ ha5) (dpa_one (rp_flat ry hfl)), by rw [List.length_append]; exact Nat.succ_le_succ hl3, ?_, ?_⟩
              · refine Cm.All.mono ?_ (Cm.all_bind.mp k3)
                intro ys k4
                rw [List.append_assoc]
                exact k4
              · refine ⟨rr6.len, fun j s e => ?_, rr6.apart⟩
                obtain ⟨o, h1, h2⟩ := rr6.ok j s e
                refine ⟨o, h1, ?_⟩
                cases s with
                | no => trivial
                | val d => exact h2
                | own d =>
                  obtain ⟨p, e1, b1, f1, n1, w1⟩ := h2
                  refine ⟨p, e1, b1, f1, n1, ?_⟩
                  -- Dd is no slot's object
                  have hp : p ≠ Dd := fun z => by
                    subst z
                    obtain ⟨o3, g1, g2⟩ := r.ok j _ e
                    rw [h1] at g1
                    cases g1
                    obtain ⟨p3, e3, _, _, _, w3⟩ := g2
                    rw [e1] at e3
                    cases e3
                    obtain ⟨u, hu⟩ := w3.there
                    rw [hD0] at hu; cases hu
                  exact w1.at (upd_ne hp)
            · exact k3.elim
      · have e : i = items.length := by omega
        subst e
        rw [List.drop_length] at q3
        refine .inl ⟨ok1.stop F2 H2 _ up3 T3 (Nat.le_refl _), ?_⟩
        have q3' := q3 Dd F2 H2 S3 T3 hD0 nf3
        rw [List.append_nil] at q3'
        exact q3' ⟨acc, hv3, ha3⟩
    · exact k.elim) (Cm.all_bind.mp q)⟩

theorem f_lc {ifs : List Expr} {scope : Scope} {own : List (Str × Nat)} (hc : X.calm = true) (hN : X.N.Nodup) (hi : PI X tg iter (tI X.K fi)) (ok : BlkOk X.N X.env.scope scope own)
    (hg : ∀ (s : Shared) (H : Hp) (C : Addr) (cl : List (Str × Addr)) (fp : List Addr), PG (X.blk s H scope (compEnvC scope cl C X.env) fp) tg (tG X.K is g)) (ht : ∀ (s : Shared) (H : Hp) (C : Addr) (cl : List (Str × Addr)) (fp : List Addr), PTs (X.blk s H scope (compEnvC scope cl C X.env) fp) ifs (tT X.K t))
    (he : ∀ (s : Shared) (H : Hp) (C : Addr) (cl : List (Str × Addr)) (fp : List Addr), PE (X.blk s H scope (compEnvC scope cl C X.env) fp) elt (tE X.K f)) (hsub : ∀ i ∈ is, i ∈ own.map (·.2)) (hs : ∀ x, foldedSetIterable iter X.env x = pure x := by intro _; rfl) :
    PE X (.ListComp elt [⟨tg, iter, ifs, 0⟩] scope pos) (tF X.K (dLc fi g t f (own.map (·.2)))) :=
  pe_imp (pe_lc hc hN hi ok hg ht he hs) fun σ H Q h => lc_red hsub h
/-- name = [..], on one line, the name a plain local -/
theorem s_setLcV {i : Nat} {y : Str} {py spos : Pos} {ifs : List Expr} {scope : Scope} {own : List (Str × Nat)} (hc : X.calm = true) (hN : X.N.Nodup) (hy : X.N[i]? = some y) (hyl : X.env.scope.names.lookup y = some .local)
    (hsw : swapsWith (.ListComp elt [⟨tg, iter, ifs, 0⟩] scope pos) (some (.Name y py)) spos.line X.env = pure true) (hi : PI X tg iter (tI X.K fi)) (ok : BlkOk X.N X.env.scope scope own)
    (hg : ∀ (s : Shared) (H : Hp) (C : Addr) (cl : List (Str × Addr)) (fp : List Addr), PG (X.blk s H scope (compEnvC scope cl C X.env) fp) tg (tG X.K is g)) (ht : ∀ (s : Shared) (H : Hp) (C : Addr) (cl : List (Str × Addr)) (fp : List Addr), PTs (X.blk s H scope (compEnvC scope cl C X.env) fp) ifs (tT X.K t))
    (he : ∀ (s : Shared) (H : Hp) (C : Addr) (cl : List (Str × Addr)) (fp : List Addr), PE (X.blk s H scope (compEnvC scope cl C X.env) fp) elt (tE X.K f)) (hsub : ∀ i ∈ is, i ∈ own.map (·.2)) (hs : ∀ x, foldedSetIterable iter X.env x = pure x := by intro _; rfl) :
    PS X (.Assign [.Name y py] (.ListComp elt [⟨tg, iter, ifs, 0⟩] scope pos) spos) (tS X.K (dSet i (dOnlyL (dLc fi g t f (own.map (·.2)))))) :=
  ps_imp (ps_setLc hc hN hy hyl hsw hi ok hg ht he hs) fun D σ H ⟨dr, F0, H0, F, env, s, S, r, q⟩ => by
    refine lc_red hsub (Q := fun x H1 => gName i x σ H1 D.nx) ⟨dr, H0, F, env, s, r, Cm.All.mono ?_ (Cm.all_bind.mp (Cm.all_bind.mp q))⟩
    intro d k p F1 H1 S1 T1 hp nf o
    rcases dict_no o with ⟨ds, rfl⟩ | ⟨kvs, rfl⟩
    · obtain ⟨vs, e1, ha⟩ := o
      have nd : ¬ dr.has p := not_dr s hp
      obtain ⟨T2, up⟩ := freeze T1 e1 nf nd
      have S2 : Step dr F H (upd F1 p (.lst vs)) H1 := ⟨fun a u e => up _ _ (S1.up a u e), S1.keep, fun a u e => by
        by_cases e2 : a = p
        · right; rw [e2]; exact hp
        · rw [upd_ne e2] at e; exact S1.new a u e⟩
      exact k _ (upd F1 p (.lst vs)) H1 T2 (S.trans S2 T2) ((r.step S2).setVal i (.dp (.lst (.inl (.inl upd_same)) (dpa_up up _ _ ha))))
    · exact k.elim
theorem s_setLcF {i : Nat} {y : Str} {py spos : Pos} {ifs : List Expr} {scope : Scope} {own : List (Str × Nat)} (hc : X.calm = true) (hN : X.N.Nodup) (hy : X.N[i]? = some y) (hyl : X.env.scope.names.lookup y = some .local)
    (hsw : swapsWith (.ListComp elt [⟨tg, iter, ifs, 0⟩] scope pos) (some (.Name y py)) spos.line X.env = pure true) (hi : PI X tg iter (tI X.K fi)) (ok : BlkOk X.N X.env.scope scope own)
    (hg : ∀ (s : Shared) (H : Hp) (C : Addr) (cl : List (Str × Addr)) (fp : List Addr), PG (X.blk s H scope (compEnvC scope cl C X.env) fp) tg (tG X.K is g)) (ht : ∀ (s : Shared) (H : Hp) (C : Addr) (cl : List (Str × Addr)) (fp : List Addr), PTs (X.blk s H scope (compEnvC scope cl C X.env) fp) ifs (tT X.K t))
    (he : ∀ (s : Shared) (H : Hp) (C : Addr) (cl : List (Str × Addr)) (fp : List Addr), PE (X.blk s H scope (compEnvC scope cl C X.env) fp) elt (tE X.K f)) (hsub : ∀ i ∈ is, i ∈ own.map (·.2)) (hs : ∀ x, foldedSetIterable iter X.env x = pure x := by intro _; rfl) :
    PS X (.Assign [.Name y py] (.ListComp elt [⟨tg, iter, ifs, 0⟩] scope pos) spos) (tS X.K (dSetF i (dLc fi g t f (own.map (·.2))))) :=
  ps_imp (ps_setLc hc hN hy hyl hsw hi ok hg ht he hs) fun D σ H ⟨dr, F0, H0, F, env, s, S, r, q⟩ => by
    refine lc_red hsub (Q := fun x H1 => gName i x σ H1 D.nx) ⟨dr, H0, F, env, s, r, Cm.All.mono ?_ (Cm.all_bind.mp q)⟩
    intro d k p F' H' S' T' hp nf o
    refine k _ F' H' T' (S.trans S' T') (r.newOwn S' s hp ?_ nf o)
    cases z : H0 p with
    | none => rfl
    | some u => have := S.keep p u (not_dr s hp) z; rw [hp] at this; cases this

/-! ### a def by its body -/
def sEnv (n : Nat) (ds : List D) : Env := ds.map .val ++ List.replicate (n - ds.length) .no
def RetP (P : D → Prop) : Out → Prop
  | .rt d => P d
  | .nx _ => P .none
  | _ => False
theorem paired_get {α β : Type} {R : α → β → Prop} : ∀ {xs : List α} {ys : List β} {i : Nat} {y : β}, Paired R xs ys → ys[i]? = some y → ∃ x, xs[i]? = some x ∧ R x y
  | _, _, _, _, .nil, e => by simp at e
  | _, _, 0, _, .cons r _, e => by simp at e; subst e; exact ⟨_, rfl, r⟩
  | _, _, i + 1, y, .cons _ t, e => by
    obtain ⟨x, h1, h2⟩ := paired_get (i := i) (y := y) t (by simpa using e)
    exact ⟨x, by simpa using h1, h2⟩
theorem rs_start {K : PySem.W.Frag} {dr : Dr} {B F H : Hp} {N : List Str} {vs : List V} {ds : List D} (h : Paired (Rp K dr F) vs ds) : Rs K dr B F H (L2.start N vs) (sEnv N.length ds) := by
  have hl := h.length
  refine ⟨by unfold L2.start sEnv; simp [hl], fun i s e => ?_, fun i j p d1 d2 e1 => ?_⟩
  · unfold sEnv at e
    unfold L2.start
    by_cases hi : i < ds.length
    · rw [List.getElem?_append_left (by simpa using hi), List.getElem?_map] at e
      rw [List.getElem?_append_left (by simpa [hl] using hi), List.getElem?_map]
      have hd : ds[i]? = some ds[i] := by simp [hi]
      obtain ⟨v, hv, rv⟩ := paired_get h hd
      rw [hd] at e
      cases e
      rw [hv]
      exact ⟨_, rfl, v, rfl, rv⟩
    · rw [List.getElem?_append_right (by simp; omega)] at e
      rw [List.getElem?_append_right (by simp; omega)]
      rw [List.getElem?_replicate] at e ⊢
      simp only [List.length_map] at e ⊢
      rw [hl]
      split at e
      · rename_i h2
        cases e
        rw [if_pos h2]
        exact ⟨_, rfl, trivial⟩
      · cases e
  · exfalso
    unfold sEnv at e1
    by_cases hi : i < ds.length
    · rw [List.getElem?_append_left (by simpa using hi), List.getElem?_map] at e1
      have hd : ds[i]? = some ds[i] := by simp [hi]
      rw [hd] at e1; cases e1
    · rw [List.getElem?_append_right (by simp; omega), List.getElem?_replicate] at e1
      split at e1 <;> cases e1
/-- THE RULE for a def: its body's meaning s, and that g asks no less than s -/
theorem fn_ok {P : Program} {w : World} {K : PySem.W.Frag} {mg : Str → Option Value} {base : Heap} {x qual : Str} {st : Stmt} {f : Addr} {fd : FuncData} {N ps : List Str} {k : Nat} {g : List D → Cm D} (F : Fun K x qual st f fd) (S : FnScope N ps (defScope st)) (s : DS)
    (hbody : ∀ (cdv : Value) (A : Around) (outer : List PySem.Env) (sh : Shared) (H : Hp), Room k (A.deeper (envOfC qual (defScope st) sh.heap.objs.size f cdv)) →
      PSs (cxOf CX0 P w K mg base N qual (defScope st) f cdv A outer sh H E0).nox (defBody st) (tS K s))
    (hg : ∀ (ds : List D) (Pd : D → Prop), ds.length = ps.length → (g ds).All Pd → (s (sEnv N.length ds)).All (RetP Pd)) :
    FnOk P w K mg base CX0 (k + 1) f fd ps (spD K ps.length g) := by
  refine F.ok S (fun vs H Q E h => ?_) (fun cdv A outer sh H vs Q E hr h => ?_)
  · obtain ⟨dr, F, ds, _, h1, h2, _⟩ := h
    rw [h1.length, h2]
  · obtain ⟨dr, F0, ds, T, h1, h2, q⟩ := h
    refine ⟨_, hbody cdv A outer sh H hr, dr, F0, H, F0, sEnv N.length ds, T, .refl, rs_start h1, Cm.All.mono (fun o k => ?_) (hg ds _ h2 q)⟩
    cases o with
    | rt d => exact fun v F' H' T' S' r => k v F' H' S' T' r
    | nx e => exact fun σ F' H' T' S' r => k _ F' H' S' T' (.dp .non)
    | bk e => exact k.elim
    | ct e => exact k.elim
/-- what a def's meaning hands back -/
def outD : Out → Cm D
  | .rt d => .ret d
  | .nx _ => .ret .none
  | _ => .bad
def fnD (n : Nat) (s : DS) : List D → Cm D := fun ds => (s (sEnv n ds)).bind outD
theorem fnD_ok {n : Nat} {s : DS} {ds : List D} {Pd : D → Prop} (h : (fnD n s ds).All Pd) : (s (sEnv n ds)).All (RetP Pd) :=
  Cm.All.mono (fun o k => by cases o <;> exact k) (Cm.all_bind.mp h)
/-- a def of the text, as it stands -/
structure DefAt (K : PySem.W.Frag) (mg : Str → Option Value) (x : Str) (st : Stmt) (ps : List Str) : Prop where
  ex : ∃ (fa : Addr) (fd : FuncData), Fun K x x st fa fd ∧ L2.Binds K fd ps [] ∧ mg x = some (.ref fa)
/-- a def with what it hands back -/
structure Has (P : Program) (w : World) (K : PySem.W.Frag) (mg : Str → Option Value) (base : Heap) (k : Nat) (x : Str) (ps : List Str) (g : List D → Cm D) : Prop where
  ex : ∃ (fa : Addr) (fd : FuncData), FnOk P w K mg base CX0 k fa fd ps (spD K ps.length g) ∧ mg x = some (.ref fa) ∧ PySem.W.keepIn K (.ref fa) = true ∧ L2.Binds K fd ps []
theorem has_mk {P : Program} {w : World} {K : PySem.W.Frag} {mg : Str → Option Value} {base : Heap} {x : Str} {st : Stmt} {N ps : List Str} (k : Nat) (A0 : DefAt K mg x st ps) (S : FnScope N ps (defScope st)) (s : DS)
    (hbody : ∀ (f : Addr) (cdv : Value) (A : Around) (outer : List PySem.Env) (sh : Shared) (H : Hp), Room k (A.deeper (envOfC x (defScope st) sh.heap.objs.size f cdv)) →
      PSs (cxOf CX0 P w K mg base N x (defScope st) f cdv A outer sh H E0).nox (defBody st) (tS K s)) : Has P w K mg base (k + 1) x ps (fnD N.length s) := by
  obtain ⟨fa, fd, F, b, m⟩ := A0.ex
  exact ⟨fa, fd, fn_ok F S s (fun cdv A outer sh H hr => hbody fa cdv A outer sh H hr) fun ds Pd _ h => fnD_ok h, m, F.kp, b⟩
theorem e_callH {n : Nat} {e : Expr} {es : List Expr} {fs : DEs} {pos : Pos} {k : Nat} {ps : List Str} {x : Str} {p : Pos} {g : List D → Cm D} (h : Has X.prog X.w X.K X.mg X.base k x ps g) (hr : Room k X.A) (hg : Gl X x)
    (ha : PA X (e :: es) (tA X.K fs)) (hdb : (x == ("__debug__" : Str)) = false := by decide) (he : starEach (e :: es) X.env = (false, eval e X.env) :: starEach es X.env := by rfl) (hpl : (backTo pos (starEach es X.env)).any (·.1) = false := by rfl) (hn : ps.length = n := by rfl) :
    PE X (.Call (.Name x p) (e :: es) [] pos) (tE X.K (dCallN n g fs)) := by
  subst hn
  obtain ⟨fa, fd, FO, m, kp, b⟩ := h.ex
  exact e_call FO hr hg m kp b ha hdb he hpl
theorem e_callH0 {pos : Pos} {k : Nat} {x : Str} {p : Pos} {g : List D → Cm D} (h : Has X.prog X.w X.K X.mg X.base k x [] g) (hr : Room k X.A) (hg : Gl X x) (hdb : (x == ("__debug__" : Str)) = false := by decide) :
    PE X (.Call (.Name x p) [] [] pos) (tE X.K (dCallN 0 g dNil)) := by
  obtain ⟨fa, fd, FO, m, kp, b⟩ := h.ex
  exact e_call0 FO hr hg m kp b hdb
/-- a module's constant -/
structure CstAt (K : PySem.W.Frag) (mg : Str → Option Value) (x : Str) (d : D) : Prop where
  ex : ∃ (v : V) (u : Value), mg x = some u ∧ RelV v u ∧ ∀ F, Dp K F v d
theorem e_cst {x : Str} {d : D} {pos : Pos} (h : CstAt X.K X.mg x d) (hg : Gl X x) (hd : (x == ("__debug__" : Str)) = false := by decide) : PE X (.Name x pos) (tE X.K (dCst d)) := by
  obtain ⟨v, u, m, r, dp⟩ := h.ex
  exact e_glob (pe_glob hg m r hd) dp
theorem hu65 {k : Nat} {A : Around} (hr : Room k A) : A.units + 65 < cLine := by have := hr.un; omega
end
end Fs

set_option Elab.async false
set_option linter.all false
set_option maxRecDepth 100000
set_option maxHeartbeats 2000000
set_option autoImplicit false
namespace Fs
open PySem PySem.Spec PyProof.Rows L2

/-! ### what a looked-at value is -/
section
variable {K : PySem.W.Frag} {dr : Dr} {F H : Hp} {v : V}
theorem bp_bl {b : Bool} (h : Bp K dr F H v (.bool b)) : v = .bl b := by
  cases h with
  | r h => exact bl_of h
  | own _ _ h => exact h.elim
theorem bp_list {ds : List D} (s : Stt dr F H) (h : Bp K dr F H v (.list ds)) : ∃ p vs, v = .ref p ∧ SqL K H p vs ∧ DpAll K F vs ds := by
  cases h with
  | r h =>
    cases h with
    | dp z =>
      cases z with
      | lst hs ha => exact ⟨_, _, rfl, sql_up s.sub hs, ha⟩
  | own _ _ h => obtain ⟨vs, h1, h2⟩ := h; exact ⟨_, vs, rfl, .inl (.inl h1), h2⟩
theorem bp_tup {ds : List D} (h : Bp K dr F H v (.tuple ds)) : ∃ p vs, v = .ref p ∧ SqT K F p vs ∧ DpAll K F vs ds := by
  cases h with
  | r h =>
    cases h with
    | dp z =>
      cases z with
      | tup hs ha => exact ⟨_, _, rfl, hs, ha⟩
  | own _ _ h => exact h.elim
theorem bp_dp {d : D} (s : Stt dr F H) (h : Bp K dr F H v d) (n : flatD d = true) : Dp K H v d := by
  cases h with
  | r h => exact dp_up s.sub _ _ (rp_flat h n)
  | own f nd o =>
    cases d with
    | list ds => obtain ⟨vs, h1, h2⟩ := o; exact .lst (.inl (.inl h1)) (dpa_up s.sub _ _ h2)
    | dict kvs => exact absurd n (by simp [flatD])
    | none => exact o.elim
    | bool _ => exact o.elim
    | int _ => exact o.elim
    | str _ => exact o.elim
    | tuple _ => exact o.elim
def asInts : List D → Option (List Int)
  | [] => some []
  | .int i :: r => (asInts r).map (i :: ·)
  | _ => none
theorem asInts_eq : ∀ {ds : List D} {ns : List Int}, asInts ds = some ns → ds = ns.map .int
  | [], _, h => by cases h; rfl
  | .int i :: r, ns, h => by
    simp only [asInts] at h
    cases e : asInts r with
    | none => rw [e] at h; cases h
    | some m => rw [e] at h; cases h; rw [asInts_eq e]; rfl
  | .none :: _, _, h => by cases h
  | .bool _ :: _, _, h => by cases h
  | .str _ :: _, _, h => by cases h
  | .list _ :: _, _, h => by cases h
  | .tuple _ :: _, _, h => by cases h
  | .dict _ :: _, _, h => by cases h
@[simp] theorem asInts_map : ∀ ns : List Int, asInts (ns.map .int) = some ns
  | [] => rfl
  | n :: r => by simp only [List.map_cons, asInts, asInts_map r, Option.map_some]
def asBools : List D → Option (List Bool)
  | [] => some []
  | .bool i :: r => (asBools r).map (i :: ·)
  | _ => none
theorem asBools_eq : ∀ {ds : List D} {ns : List Bool}, asBools ds = some ns → ds = ns.map .bool
  | [], _, h => by cases h; rfl
  | .bool i :: r, ns, h => by
    simp only [asBools] at h
    cases e : asBools r with
    | none => rw [e] at h; cases h
    | some m => rw [e] at h; cases h; rw [asBools_eq e]; rfl
  | .none :: _, _, h => by cases h
  | .int _ :: _, _, h => by cases h
  | .str _ :: _, _, h => by cases h
  | .list _ :: _, _, h => by cases h
  | .tuple _ :: _, _, h => by cases h
  | .dict _ :: _, _, h => by cases h
@[simp] theorem asBools_map : ∀ ns : List Bool, asBools (ns.map .bool) = some ns
  | [] => rfl
  | n :: r => by simp only [List.map_cons, asBools, asBools_map r, Option.map_some]
theorem dpa_ints : ∀ {ns : List Int} {vs : List V}, DpAll K F vs (ns.map .int) → vs = ns.map V.int
  | [], _, h => by cases h; rfl
  | n :: r, _, h => by
    cases h with
    | cons h1 h2 => cases h1; rw [dpa_ints h2]; rfl
theorem dpa_bools : ∀ {ns : List Bool} {vs : List V}, DpAll K F vs (ns.map .bool) → vs = ns.map V.bl
  | [], _, h => by cases h; rfl
  | n :: r, _, h => by
    cases h with
    | cons h1 h2 => cases h1; rw [dpa_bools h2]; rfl
theorem ints_dpa : ∀ ns : List Int, DpAll K F (ns.map V.int) (ns.map PyData.int)
  | [] => .nil
  | n :: r => .cons (.int n) (ints_dpa r)
end

/-! ### the operations on data -/
def mulOk (i j : Int) : Bool := decide (i.natAbs.log2 + j.natAbs.log2 < 1000000)
def vAdd : D → D → Cm D
  | .int i, .int j => .ret (.int (i + j))
  | .list a, .list b => if a.length + b.length ≤ 1000000 then .ret (.list (a ++ b)) else .bad
  | .tuple a, .tuple b => if a.length + b.length ≤ 1000000 then .ret (.tuple (a ++ b)) else .bad
  | _, _ => .bad
def vSub : D → D → Cm D
  | .int i, .int j => .ret (.int (i - j))
  | _, _ => .bad
def vMul : D → D → Cm D
  | .int i, .int j => if mulOk i j = true then .ret (.int (i * j)) else .bad
  | _, _ => .bad
def vDiv : D → D → Cm D
  | .int i, .int j => if 0 < j ∧ j.natAbs.log2 < 9000 then .ret (.int (i / j)) else .bad
  | _, _ => .bad
def vMod : D → D → Cm D
  | .int i, .int j => if 0 < j then .ret (.int (i % j)) else .bad
  | _, _ => .bad
def vPow : D → D → Cm D
  | .int i, .int j => if 0 ≤ j ∧ (Builtin.Int.intBits i : Int) * j ≤ 2 ^ 27 then .ret (.int (i ^ j.toNat)) else .bad
  | _, _ => .bad
def vNeg : D → Cm D
  | .int i => .ret (.int (-i))
  | _ => .bad
def vCmp (p : Int → Int → Bool) : D → D → Cm D
  | .int i, .int j => .ret (.bool (p i j))
  | _, _ => .bad
def vEq (x y : D) : Cm D := if SeqAt.shaped x = true ∧ SeqAt.shaped y = true ∧ flatD x = true ∧ flatD y = true then .ret (.bool (PyData.eqv x y)) else .bad
def vNe (x y : D) : Cm D := if SeqAt.shaped x = true ∧ SeqAt.shaped y = true ∧ flatD x = true ∧ flatD y = true then .ret (.bool (!PyData.eqv x y)) else .bad
def isN : D → Bool
  | .none => true
  | _ => false
def vIs (x : D) : D → Cm D
  | .none => .ret (.bool (isN x))
  | .bool b => (match x with | .bool a => .ret (.bool (a == b)) | _ => .bad)
  | _ => .bad
def vIsNot (x : D) : D → Cm D
  | .none => .ret (.bool (!isN x))
  | .bool b => (match x with | .bool a => .ret (.bool (a != b)) | _ => .bad)
  | _ => .bad
def vIn : D → D → Cm D
  | x, .list ds => if SeqAt.shaped x = true ∧ SeqAt.shaped (.list ds) = true ∧ flatD x = true then .ret (.bool (ds.any fun z => PyData.eqv z x)) else .bad
  | x, .tuple ds => if SeqAt.shaped x = true ∧ SeqAt.shaped (.tuple ds) = true ∧ flatD x = true then .ret (.bool (ds.any fun z => PyData.eqv z x)) else .bad
  | _, _ => .bad
def vNotIn : D → D → Cm D
  | x, .list ds => if SeqAt.shaped x = true ∧ SeqAt.shaped (.list ds) = true ∧ flatD x = true then .ret (.bool (!ds.any fun z => PyData.eqv z x)) else .bad
  | x, .tuple ds => if SeqAt.shaped x = true ∧ SeqAt.shaped (.tuple ds) = true ∧ flatD x = true then .ret (.bool (!ds.any fun z => PyData.eqv z x)) else .bad
  | _, _ => .bad
def vIx : D → D → Cm D
  | .list ds, .int i => match atI ds i with
    | some d => .ret d
    | none => .bad
  | .tuple ds, .int i => match atI ds i with
    | some d => .ret d
    | none => .bad
  | _, _ => .bad
section
variable {X : Cx}
theorem opd_int {f : Value → Value → Sem Value} {C : Int → Int → Prop} [∀ i j, Decidable (C i j)] {gv : Int → Int → V} {g : Int → Int → D} {G : D → D → Cm D} (ho : OpR X f (rI C gv)) (hv : ∀ i j K F, Dp K F (gv i j) (g i j))
    (hG : ∀ x y, (∃ i j, x = .int i ∧ y = .int j ∧ G x y = if C i j then .ret (g i j) else .bad) ∨ G x y = .bad) : OpR X f (rD2 X.K G) := by
  intro pins s σ H x y v u Q I rx ry h
  obtain ⟨dr, F, dx, dy, T, bx, b2, q⟩ := h
  refine ho pins s σ H x y v u Q I rx ry ?_
  rcases hG dx dy with ⟨i, j, rfl, rfl, e⟩ | e
  · rw [e] at q
    by_cases hc : C i j
    · rw [if_pos hc] at q
      exact ⟨i, j, bp_int bx, bp_int b2, hc, q _ F H .refl T (.dp (hv i j _ _))⟩
    · rw [if_neg hc] at q; exact q.elim
  · rw [e] at q; exact q.elim
theorem opd_int0 {f : Value → Value → Sem Value} {gv : Int → Int → V} {g : Int → Int → D} {G : D → D → Cm D} (ho : OpR X f (rI0 gv)) (hv : ∀ i j K F, Dp K F (gv i j) (g i j))
    (hG : ∀ x y, (∃ i j, x = .int i ∧ y = .int j ∧ G x y = .ret (g i j)) ∨ G x y = .bad) : OpR X f (rD2 X.K G) := by
  intro pins s σ H x y v u Q I rx ry h
  obtain ⟨dr, F, dx, dy, T, bx, b2, q⟩ := h
  refine ho pins s σ H x y v u Q I rx ry ?_
  rcases hG dx dy with ⟨i, j, rfl, rfl, e⟩ | e
  · rw [e] at q
    exact ⟨i, j, bp_int bx, bp_int b2, q _ F H .refl T (.dp (hv i j _ _))⟩
  · rw [e] at q; exact q.elim
theorem o_sub : OpR X (binaryOp .Sub) (rD2 X.K vSub) := opd_int0 op_sub (fun i j K F => .int (i - j)) fun x y => by
  cases x <;> cases y <;> first | exact .inr rfl | exact .inl ⟨_, _, rfl, rfl, rfl⟩
instance (i j : Int) : Decidable (CMulW i j) := inferInstanceAs (Decidable (_ < _))
instance (i j : Int) : Decidable (CDivW i j) := inferInstanceAs (Decidable (_ ∧ _))
theorem o_mul : OpR X (binaryOp .Mult) (rD2 X.K vMul) := opd_int (C := CMulW) (g := fun i j => .int (i * j)) op_mulW (fun i j K F => .int (i * j)) fun x y => by
  cases x <;> cases y <;> first
    | exact .inr rfl
    | (rename_i i j
       refine .inl ⟨_, _, rfl, rfl, ?_⟩
       by_cases hc : CMulW i j
       · rw [if_pos hc]; exact if_pos (decide_eq_true hc)
       · rw [if_neg hc]; exact if_neg (fun z => hc (of_decide_eq_true z)))
theorem o_div : OpR X (binaryOp .FloorDiv) (rD2 X.K vDiv) := opd_int (C := CDivW) (g := fun i j => .int (i / j)) op_fdivW (fun i j K F => .int (i / j)) fun x y => by
  cases x <;> cases y <;> first
    | exact .inr rfl
    | exact .inl ⟨_, _, rfl, rfl, rfl⟩
theorem o_mod : OpR X (binaryOp .Mod) (rD2 X.K vMod) := opd_int (C := fun _ j => 0 < j) (g := fun i j => .int (i % j)) op_mod (fun i j K F => .int (i % j)) fun x y => by
  cases x <;> cases y <;> first
    | exact .inr rfl
    | exact .inl ⟨_, _, rfl, rfl, rfl⟩
theorem op_powW : OpR X (binaryOp .Pow) (rI (fun i j => 0 ≤ j ∧ (Builtin.Int.intBits i : Int) * j ≤ 2 ^ 27) fun i j => .int (i ^ j.toNat)) := opI fun _ _ _ _ _ _ _ hc q => pow_int hc.1 hc.2 q
theorem o_pow : OpR X (binaryOp .Pow) (rD2 X.K vPow) := opd_int (C := fun i j => 0 ≤ j ∧ (Builtin.Int.intBits i : Int) * j ≤ 2 ^ 27) (g := fun i j => .int (i ^ j.toNat)) op_powW (fun i j K F => .int (i ^ j.toNat)) fun x y => by
  cases x <;> cases y <;> first
    | exact .inr rfl
    | exact .inl ⟨_, _, rfl, rfl, rfl⟩
theorem o_cmp {op : CmpOp} {p : Int → Int → Bool} (ho : OpR X (compareOp op) (rI0 fun i j => .bl (p i j))) : OpR X (compareOp op) (rD2 X.K (vCmp p)) := opd_int0 (g := fun i j => .bool (p i j)) ho (fun i j K F => .bl _) fun x y => by
  cases x <;> cases y <;> first | exact .inr rfl | exact .inl ⟨_, _, rfl, rfl, rfl⟩
def pLt (i j : Int) : Bool := decide (i < j)
def pLe (i j : Int) : Bool := decide (i ≤ j)
def pGt (i j : Int) : Bool := decide (j < i)
def pGe (i j : Int) : Bool := decide (j ≤ i)
theorem o_lt : OpR X (compareOp .Lt) (rD2 X.K (vCmp pLt)) := o_cmp op_lt
theorem o_le : OpR X (compareOp .LtE) (rD2 X.K (vCmp pLe)) := o_cmp op_le
theorem o_gt : OpR X (compareOp .Gt) (rD2 X.K (vCmp pGt)) := o_cmp op_gt
theorem o_ge : OpR X (compareOp .GtE) (rD2 X.K (vCmp pGe)) := o_cmp op_ge
theorem o_eq (hu : X.A.units + 64 < cLine) : OpR X (compareOp .Eq) (rD2 X.K vEq) := by
  intro pins s σ H x y v u Q I rx ry h
  obtain ⟨dr, F, dx, dy, T, bx, b2, q⟩ := h
  refine op_eqD hu pins s σ H x y v u Q I rx ry ?_
  unfold vEq at q
  split at q
  · rename_i hc
    exact ⟨dx, dy, bp_dp T bx hc.2.2.1, bp_dp T b2 hc.2.2.2, hc.1, hc.2.1, q _ F H .refl T (.dp (.bl _))⟩
  · exact q.elim
theorem o_ne (hu : X.A.units + 64 < cLine) : OpR X (compareOp .NotEq) (rD2 X.K vNe) := by
  intro pins s σ H x y v u Q I rx ry h
  obtain ⟨dr, F, dx, dy, T, bx, b2, q⟩ := h
  refine op_neD hu pins s σ H x y v u Q I rx ry ?_
  unfold vNe at q
  split at q
  · rename_i hc
    exact ⟨dx, dy, bp_dp T bx hc.2.2.1, bp_dp T b2 hc.2.2.2, hc.1, hc.2.1, q _ F H .refl T (.dp (.bl _))⟩
  · exact q.elim
theorem bp_none {K : PySem.W.Frag} {dr : Dr} {F H : Hp} {v : V} {d : D} (h : Bp K dr F H v d) : decide (v = .non) = isN d := by
  cases h with
  | r h =>
    cases h with
    | dp z => cases z <;> first | rfl | exact decide_eq_false (fun e => nomatch e)
    | drw => exact decide_eq_false (fun e => nomatch e)
    | dct _ => exact decide_eq_false (fun e => nomatch e)
  | @own p d _ _ o =>
    cases d with
    | none => exact o.elim
    | bool _ => exact o.elim
    | int _ => exact o.elim
    | str _ => exact o.elim
    | tuple _ => exact o.elim
    | list _ => exact decide_eq_false (fun e => nomatch e)
    | dict _ => exact decide_eq_false (fun e => nomatch e)
theorem bp_isnone {K : PySem.W.Frag} {dr : Dr} {F H : Hp} {v : V} (h : Bp K dr F H v .none) : v = .non := by
  cases h with
  | r h =>
    cases h with
    | dp z => cases z; rfl
  | own _ _ o => exact o.elim
theorem bp_isbool {K : PySem.W.Frag} {dr : Dr} {F H : Hp} {v : V} {b : Bool} (h : Bp K dr F H v (.bool b)) : v = .bl b := by
  cases h with
  | r h =>
    cases h with
    | dp z => cases z; rfl
  | own _ _ o => exact o.elim
theorem o_is : OpR X (compareOp .Is) (rD2 X.K vIs) := by
  intro pins s σ H x y v u Q I rx ry h
  obtain ⟨dr, F, dx, dy, T, bx, b2, q⟩ := h
  cases dy with
  | none =>
    refine op_isN pins s σ H x y v u Q I rx ry ?_
    refine ⟨bp_isnone b2, ?_⟩
    rw [bp_none bx]
    exact q _ F H .refl T (.dp (.bl _))
  | bool b =>
    cases dx with
    | bool a =>
      cases bp_isbool bx
      cases bp_isbool b2
      cases rx
      cases ry
      exact is_bool (fin_bl I (q _ F H .refl T (.dp (.bl _))) rfl)
    | _ => exact q.elim
  | int _ => exact q.elim
  | str _ => exact q.elim
  | tuple _ => exact q.elim
  | list _ => exact q.elim
  | dict _ => exact q.elim
theorem o_isNot : OpR X (compareOp .IsNot) (rD2 X.K vIsNot) := by
  intro pins s σ H x y v u Q I rx ry h
  obtain ⟨dr, F, dx, dy, T, bx, b2, q⟩ := h
  cases dy with
  | none =>
    refine op_notN pins s σ H x y v u Q I rx ry ?_
    refine ⟨bp_isnone b2, ?_⟩
    rw [bp_none bx]
    exact q _ F H .refl T (.dp (.bl _))
  | bool b =>
    cases dx with
    | bool a =>
      cases bp_isbool bx
      cases bp_isbool b2
      cases rx
      cases ry
      exact isnot_bool (fin_bl I (q _ F H .refl T (.dp (.bl _))) rfl)
    | _ => exact q.elim
  | int _ => exact q.elim
  | str _ => exact q.elim
  | tuple _ => exact q.elim
  | list _ => exact q.elim
  | dict _ => exact q.elim
theorem room_in_shapedT {A : Around} {ds : List PyData} {d : PyData} (h : SeqAt.shaped d = true) (hu : A.units + 65 < cLine) : A.units + 1 + min (PyData.depthAll ds) d.depth < cLine := by
  have h1 := SeqAt.depth_of_shaped h
  have h2 : min (PyData.depthAll ds) d.depth ≤ d.depth := Nat.min_le_right _ _
  omega
theorem o_in (hu : X.A.units + 65 < cLine) : OpR X (compareOp .In) (rD2 X.K vIn) := by
  intro pins s σ H x y v u Q I rx ry h
  obtain ⟨dr, F, dx, dy, T, bx, b2, q⟩ := h
  cases dy with
  | list ds =>
    have q' : (if SeqAt.shaped dx = true ∧ SeqAt.shaped (.list ds) = true ∧ flatD dx = true then Cm.ret (PyData.bool (ds.any fun z => PyData.eqv z dx)) else .bad).All _ := q
    split at q'
    · rename_i hc
      exact op_inD hu pins s σ H x y v u Q I rx ry ⟨dx, ds, bp_dp T bx hc.2.2, bp_dp T b2 rfl, hc.1, hc.2.1, q' _ F H .refl T (.dp (.bl _))⟩
    · exact q'.elim
  | tuple ds =>
    have q' : (if SeqAt.shaped dx = true ∧ SeqAt.shaped (.tuple ds) = true ∧ flatD dx = true then Cm.ret (PyData.bool (ds.any fun z => PyData.eqv z dx)) else .bad).All _ := q
    split at q'
    · rename_i hc
      obtain ⟨as, r1⟩ := Dp.reads I _ x v (bp_dp T bx hc.2.2) rx
      obtain ⟨bs, r2⟩ := Dp.reads I (.tuple ds) y u (bp_dp T b2 rfl) ry
      exact SeqAt.in_tuple_reads r2 r1 (SeqAt.canLay_of_shaped hc.2.1) (SeqAt.canLay_of_shaped hc.1) (room_in_shapedT hc.1 hu) ⟨.bl _, H, I, rfl, q' _ F H .refl T (.dp (.bl _))⟩
    · exact q'.elim
  | none => exact q.elim
  | bool _ => exact q.elim
  | int _ => exact q.elim
  | str _ => exact q.elim
  | dict _ => exact q.elim
theorem o_notIn (hu : X.A.units + 65 < cLine) : OpR X (compareOp .NotIn) (rD2 X.K vNotIn) := by
  intro pins s σ H x y v u Q I rx ry h
  obtain ⟨dr, F, dx, dy, T, bx, b2, q⟩ := h
  cases dy with
  | list ds =>
    have q' : (if SeqAt.shaped dx = true ∧ SeqAt.shaped (.list ds) = true ∧ flatD dx = true then Cm.ret (PyData.bool (!ds.any fun z => PyData.eqv z dx)) else .bad).All _ := q
    split at q'
    · rename_i hc
      exact op_notInD hu pins s σ H x y v u Q I rx ry ⟨dx, ds, bp_dp T bx hc.2.2, bp_dp T b2 rfl, hc.1, hc.2.1, q' _ F H .refl T (.dp (.bl _))⟩
    · exact q'.elim
  | tuple ds =>
    have q' : (if SeqAt.shaped dx = true ∧ SeqAt.shaped (.tuple ds) = true ∧ flatD dx = true then Cm.ret (PyData.bool (!ds.any fun z => PyData.eqv z dx)) else .bad).All _ := q
    split at q'
    · rename_i hc
      obtain ⟨as, r1⟩ := Dp.reads I _ x v (bp_dp T bx hc.2.2) rx
      obtain ⟨bs, r2⟩ := Dp.reads I (.tuple ds) y u (bp_dp T b2 rfl) ry
      exact SeqAt.notIn_tuple_reads r2 r1 (SeqAt.canLay_of_shaped hc.2.1) (SeqAt.canLay_of_shaped hc.1) (room_in_shapedT hc.1 hu) ⟨.bl _, H, I, rfl, q' _ F H .refl T (.dp (.bl _))⟩
    · exact q'.elim
  | none => exact q.elim
  | bool _ => exact q.elim
  | int _ => exact q.elim
  | str _ => exact q.elim
  | dict _ => exact q.elim
theorem u_neg : UnR X (unaryOp .USub) (rD1 X.K vNeg) := by
  intro pins s σ H x v Q I rx h
  obtain ⟨dr, F, dx, T, bx, q⟩ := h
  refine un_neg pins s σ H x v Q I rx ?_
  cases dx with
  | int i => exact ⟨i, bp_int bx, q _ F H .refl T (.dp (.int _))⟩
  | none => exact q.elim
  | bool _ => exact q.elim
  | str _ => exact q.elim
  | tuple _ => exact q.elim
  | list _ => exact q.elim
  | dict _ => exact q.elim
/-- list + list, whatever they are -/
theorem cat_lists {pins : List (Addr × Obj)} {s : Shared} {σ : L2.St} {H : Hp} {l b : Addr} {xs zs : List V} {Q : VK} (I : Inv X pins σ H s) (ha : SqL X.K H l xs) (hb : SqL X.K H b zs) (hz : xs.length + zs.length ≤ sizeLine) (q : ∀ p, H p = none → Q (.ref p) (upd H p (.lst (xs ++ zs)))) :
    wpAny (model X.prog X.w) X.A (binaryOp .Add (.ref l) (.ref b)) (EP X pins σ Q) X.xe s := by
  obtain ⟨its, r, ⟨o, n, e, c1, d1, t1⟩, z1⟩ := I.list ha
  obtain ⟨its2, r2, ⟨o2, n2, e2, c2, d2, t2⟩, z2⟩ := I.list hb
  have hl := r.length
  have hl2 := r2.length
  obtain ⟨cl, dd, da, sl⟩ := o
  obtain ⟨cl2, dd2, da2, sl2⟩ := o2
  simp only at c1 d1 t1 c2 d2 t2
  subst c1 d1 t1 c2 d2 t2
  have hz3 : its.toArray.size + its2.toArray.size ≤ sizeLine := by rw [List.size_toArray, List.size_toArray]; omega
  refine PySem.concat_meets ⟨_, e, rfl⟩ ⟨_, e2, rfl⟩ noFill_list_add seq_list_add PySem.F.slot_list_add PySem.F.entry_list_add (PySem.F.args_list_add_2 _ _) (list_addW l b its.toArray its2.toArray n n2 none none sl sl2 hz3) ⟨e, e2, ?_⟩
  have ea : its.toArray ++ its2.toArray = (its ++ its2).toArray := by simp
  rw [ea]
  exact ⟨.ref _, _, I.lnew (t' := s.toks) (r.append r2) (by rw [List.length_append]; omega), rfl, q _ I.fresh⟩
/-- tuple + tuple -/
theorem cat_tups {pins : List (Addr × Obj)} {s : Shared} {σ : L2.St} {H : Hp} {l b : Addr} {xs zs : List V} {Q : VK} (I : Inv X pins σ H s) (ha : SqT X.K H l xs) (hb : SqT X.K H b zs) (hz : xs.length + zs.length ≤ sizeLine)
    (q0 : xs = [] → Q (.ref b) H) (q1 : zs = [] → Q (.ref l) H) (q : ∀ p, H p = none → Q (.ref p) (upd H p (.tup (xs ++ zs)))) :
    wpAny (model X.prog X.w) X.A (binaryOp .Add (.ref l) (.ref b)) (EP X pins σ Q) X.xe s := by
  obtain ⟨its, r1, p1, _⟩ := I.tuple ha
  obtain ⟨its2, r2, p2, _⟩ := I.tuple hb
  by_cases hx : its = []
  · obtain ⟨⟨cls, dd, data, sl⟩, ho, hc, n, hd⟩ := id p1
    obtain ⟨⟨cls2, dd2, data2, sl2⟩, ho2, hc2, n2, hd2⟩ := id p2
    simp only at hc hd hc2 hd2
    subst hc hd hc2 hd2
    refine PySem.concat_meets ⟨_, ho, rfl⟩ ⟨_, ho2, rfl⟩ noFill_tuple_add seq_tuple_add PySem.F.slot_tuple_add PySem.F.entry_tuple_add (PySem.F.args_tuple_add_2 _ _)
      (tuple_addW0 l b its.toArray its2.toArray n n2 dd dd2 sl sl2 (by rw [hx]; rfl)) ⟨ho, ho2, ?_⟩
    exact ⟨.ref b, H, I.tok _, rfl, q0 (r1.nil_iff.mp hx)⟩
  · refine HT.cat_tup p1 p2 hx (fun z => ⟨.ref l, H, I, rfl, q1 (r2.nil_iff.mp z)⟩) (fun z => ?_) (by rw [← r1.length, ← r2.length]; exact hz)
    refine ⟨.ref s.heap.objs.size, _, I.laid (t' := s.toks) (o := .tup (xs ++ zs)) (fun b ob q => Heap.get?_push_of_some _ q) (Nat.le_refl _) ?_, rfl, q _ (I.hok.fresh (Nat.le_refl _))⟩
    exact ⟨by rw [List.length_append]; exact hz, _, r1.append r2, IsTup.new _ _⟩
theorem o_add : OpR X (binaryOp .Add) (rD2 X.K vAdd) := by
  intro pins s σ H x y v u Q I rx ry h
  obtain ⟨dr, F, dx, dy, T, bx, b2, q⟩ := h
  cases dx with
  | int i =>
    cases dy with
    | int j => exact op_add pins s σ H x y v u Q I rx ry ⟨i, j, bp_int bx, bp_int b2, q _ F H .refl T (.dp (.int _))⟩
    | none => exact q.elim
    | bool _ => exact q.elim
    | str _ => exact q.elim
    | tuple _ => exact q.elim
    | list _ => exact q.elim
    | dict _ => exact q.elim
  | list a =>
    cases dy with
    | list b =>
      have q' : (if a.length + b.length ≤ 1000000 then Cm.ret (PyData.list (a ++ b)) else .bad).All _ := q
      split at q'
      · rename_i hl
        obtain ⟨p1, vs, rfl, h1, h2⟩ := bp_list T bx
        obtain ⟨p2, ws, rfl, h3, h4⟩ := bp_list T b2
        cases rx
        cases ry
        refine cat_lists I h1 h3 (by rw [dpa_len h2, dpa_len h4]; exact mil hl) fun p hp => ?_
        obtain ⟨S2, T2⟩ := lay T hp (.lst (vs ++ ws))
        exact q' _ _ _ S2 T2 (.dp (.lst (.inl (.inl upd_same)) (dpa_up S2.up _ _ (dpa_app h2 h4))))
      · exact q'.elim
    | none => exact q.elim
    | bool _ => exact q.elim
    | str _ => exact q.elim
    | tuple _ => exact q.elim
    | int _ => exact q.elim
    | dict _ => exact q.elim
  | tuple a =>
    cases dy with
    | tuple b =>
      have q' : (if a.length + b.length ≤ 1000000 then Cm.ret (PyData.tuple (a ++ b)) else .bad).All _ := q
      split at q'
      · rename_i hl
        obtain ⟨p1, vs, rfl, h1, h2⟩ := bp_tup bx
        obtain ⟨p2, ws, rfl, h3, h4⟩ := bp_tup b2
        have hk1 := sqt_up T.sub h1
        have hk2 := sqt_up T.sub h3
        cases rx
        cases ry
        refine cat_tups I hk1 hk2 (by rw [dpa_len h2, dpa_len h4]; exact mil hl) (fun e => ?_) (fun e => ?_) fun p hp => ?_
        · subst e
          cases h2
          exact q' _ F H .refl T (.dp (.tup h3 h4))
        · subst e
          cases h4
          rw [List.append_nil] at q'
          exact q' _ F H .refl T (.dp (.tup h1 h2))
        · obtain ⟨S2, T2⟩ := lay T hp (.tup (vs ++ ws))
          exact q' _ _ _ S2 T2 (.dp (.tup (.inl (.inl upd_same)) (dpa_up S2.up _ _ (dpa_app h2 h4))))
      · exact q'.elim
    | none => exact q.elim
    | bool _ => exact q.elim
    | str _ => exact q.elim
    | list _ => exact q.elim
    | int _ => exact q.elim
    | dict _ => exact q.elim
  | none => exact q.elim
  | bool _ => exact q.elim
  | str _ => exact q.elim
  | dict _ => exact q.elim
theorem x_ix : IxR X (rD2 X.K vIx) := by
  intro value slice pins s σ H x y v u Q I rx ry h hsub
  obtain ⟨dr, F, dx, dy, T, bx, b2, q⟩ := h
  cases dx with
  | list ds =>
    cases dy with
    | int i =>
      have q' : (match atI ds i with | some d => Cm.ret d | none => .bad).All _ := q
      obtain ⟨p, vs, rfl, h1, h2⟩ := bp_list T bx
      split at q'
      · rename_i d hd
        obtain ⟨j, j1, j2, j3, j4, j5⟩ := atI_get hd
        obtain ⟨w, hw, rvw⟩ := dpa_get h2 j2
        refine ix_list value slice pins s σ H _ y v u Q I rx ry ⟨p, vs, i, w, rfl, bp_int b2, h1, ?_, q' _ F H .refl T (.dp rvw)⟩ hsub
        unfold atI at hd ⊢
        rw [dpa_len h2]
        cases e : ixN ds.length i with
        | none => rw [e] at hd; cases hd
        | some j' =>
          rw [e] at hd
          obtain ⟨z1, _, _, _⟩ := ixN_seq e
          rw [j1] at z1
          cases z1
          exact hw
      · exact q'.elim
    | none => exact q.elim
    | bool _ => exact q.elim
    | str _ => exact q.elim
    | list _ => exact q.elim
    | tuple _ => exact q.elim
    | dict _ => exact q.elim
  | tuple ds =>
    cases dy with
    | int i =>
      have q' : (match atI ds i with | some d => Cm.ret d | none => .bad).All _ := q
      obtain ⟨p, vs, rfl, h1, h2⟩ := bp_tup bx
      split at q'
      · rename_i d hd
        obtain ⟨j, j1, j2, j3, j4, j5⟩ := atI_get hd
        obtain ⟨w, hw, rvw⟩ := dpa_get h2 j2
        refine ix_tup value slice pins s σ H _ y v u Q I rx ry ⟨p, vs, i, w, rfl, bp_int b2, sqt_up T.sub h1, ?_, q' _ F H .refl T (.dp rvw)⟩ hsub
        unfold atI at hd ⊢
        rw [dpa_len h2]
        cases e : ixN ds.length i with
        | none => rw [e] at hd; cases hd
        | some j' =>
          rw [e] at hd
          obtain ⟨z1, _, _, _⟩ := ixN_seq e
          rw [j1] at z1
          cases z1
          exact hw
      · exact q'.elim
    | none => exact q.elim
    | bool _ => exact q.elim
    | str _ => exact q.elim
    | list _ => exact q.elim
    | tuple _ => exact q.elim
    | dict _ => exact q.elim
  | none => exact q.elim
  | bool _ => exact q.elim
  | int _ => exact q.elim
  | str _ => exact q.elim
  | dict _ => exact q.elim

/-! ### calls of built-ins -/
def cLen : List D → Cm D
  | [.list ds] => .ret (.int ds.length)
  | [.tuple ds] => .ret (.int ds.length)
  | _ => .bad
def cAbs : List D → Cm D
  | [.int i] => .ret (.int (if i < 0 then -i else i))
  | _ => .bad
def cInt : List D → Cm D
  | [.int i] => .ret (.int i)
  | _ => .bad
def cMin2 : List D → Cm D
  | [.int i, .int j] => .ret (.int (if j < i then j else i))
  | _ => .bad
def cMax2 : List D → Cm D
  | [.int i, .int j] => .ret (.int (if j > i then j else i))
  | _ => .bad
def cGcd : List D → Cm D
  | [.int i, .int j] => .ret (.int ((Nat.gcd i.natAbs j.natAbs : Nat) : Int))
  | _ => .bad
def cTuple : List D → Cm D
  | [.list ds] => .ret (.tuple ds)
  | [.tuple ds] => .ret (.tuple ds)
  | _ => .bad
def cList : List D → Cm D
  | [.list ds] => .ret (.list ds)
  | [.tuple ds] => .ret (.list ds)
  | _ => .bad
def cSum : List D → Cm D
  | [.list ds] => match asInts ds with
    | some ns => .ret (.int ns.sum)
    | none => .bad
  | _ => .bad
def cAll : List D → Cm D
  | [.list ds] => match asBools ds with
    | some bs => .ret (.bool (bs.all id))
    | none => .bad
  | _ => .bad
def cAny : List D → Cm D
  | [.list ds] => match asBools ds with
    | some bs => .ret (.bool (bs.any id))
    | none => .bad
  | _ => .bad
theorem k_len : CallR X (.builtin "len") (rDs X.K cLen) := by
  intro pins s σ H xs us Q I rx h
  obtain ⟨dr, F, ds, T, bx, q⟩ := h
  refine call_len_seq pins s σ H xs us Q I rx ?_
  unfold cLen at q
  split at q
  · cases bx with
    | cons b1 bx =>
      cases bx
      obtain ⟨p, vs, rfl, h1, h2⟩ := bp_list T b1
      refine ⟨p, vs, rfl, .inl h1, ?_⟩
      rw [dpa_len h2]
      exact q _ F H .refl T (.dp (.int _))
  · cases bx with
    | cons b1 bx =>
      cases bx
      obtain ⟨p, vs, rfl, h1, h2⟩ := bp_tup b1
      refine ⟨p, vs, rfl, .inr (sqt_up T.sub h1), ?_⟩
      rw [dpa_len h2]
      exact q _ F H .refl T (.dp (.int _))
  · exact q.elim
theorem k_abs : CallR X (.builtin "abs") (rDs X.K cAbs) := by
  intro pins s σ H xs us Q I rx h
  obtain ⟨dr, F, ds, T, bx, q⟩ := h
  refine call_abs pins s σ H xs us Q I rx ?_
  unfold cAbs at q
  split at q
  · cases bx with
    | cons b1 bx =>
      cases bx
      cases bp_int b1
      exact ⟨_, rfl, q _ F H .refl T (.dp (.int _))⟩
  · exact q.elim
theorem k_int : CallR X (.type "int") (rDs X.K cInt) := by
  intro pins s σ H xs us Q I rx h
  obtain ⟨dr, F, ds, T, bx, q⟩ := h
  refine call_int1 pins s σ H xs us Q I rx ?_
  unfold cInt at q
  split at q
  · cases bx with
    | cons b1 bx =>
      cases bx
      cases bp_int b1
      exact .inl ⟨_, rfl, q _ F H .refl T (.dp (.int _))⟩
  · exact q.elim
theorem k_min2 (hc : X.calm = true) : CallR X (.builtin "min") (rDs X.K cMin2) := by
  intro pins s σ H xs us Q I rx h
  obtain ⟨dr, F, ds, T, bx, q⟩ := h
  refine call_min2 hc pins s σ H xs us Q I rx ?_
  unfold cMin2 at q
  split at q
  · cases bx with
    | cons b1 bx =>
      cases bx with
      | cons b2 bx =>
        cases bx
        cases bp_int b1
        cases bp_int b2
        exact ⟨_, _, rfl, q _ F H .refl T (.dp (.int _))⟩
  · exact q.elim
theorem k_max2 (hc : X.calm = true) : CallR X (.builtin "max") (rDs X.K cMax2) := by
  intro pins s σ H xs us Q I rx h
  obtain ⟨dr, F, ds, T, bx, q⟩ := h
  refine call_max2 hc pins s σ H xs us Q I rx ?_
  unfold cMax2 at q
  split at q
  · cases bx with
    | cons b1 bx =>
      cases bx with
      | cons b2 bx =>
        cases bx
        cases bp_int b1
        cases bp_int b2
        exact ⟨_, _, rfl, q _ F H .refl T (.dp (.int _))⟩
  · exact q.elim
theorem k_gcd : CallR X (.builtin "math.gcd") (rDs X.K cGcd) := by
  intro pins s σ H xs us Q I rx h
  obtain ⟨dr, F, ds, T, bx, q⟩ := h
  refine cr_gcd pins s σ H xs us Q I rx ?_
  unfold cGcd at q
  split at q
  · cases bx with
    | cons b1 bx =>
      cases bx with
      | cons b2 bx =>
        cases bx
        cases bp_int b1
        cases bp_int b2
        exact ⟨_, _, rfl, q _ F H .refl T (.dp (.int _))⟩
  · exact q.elim
theorem k_tuple : CallR X (.type "tuple") (rDs X.K cTuple) := by
  intro pins s σ H xs us Q I rx h
  obtain ⟨dr, F, ds, T, bx, q⟩ := h
  refine call_tuple_of pins s σ H xs us Q I rx ?_
  unfold cTuple at q
  split at q
  · cases bx with
    | cons b1 bx =>
      cases bx
      obtain ⟨p, vs, rfl, h1, h2⟩ := bp_list T b1
      refine ⟨p, vs, rfl, .inl ⟨h1, fun l hl => ?_⟩⟩
      obtain ⟨S2, T2⟩ := lay T hl (.tup vs)
      exact q _ _ _ S2 T2 (.dp (.tup (.inl (.inl upd_same)) (dpa_up S2.up _ _ h2)))
  · cases bx with
    | cons b1 bx =>
      cases bx
      obtain ⟨p, vs, rfl, h1, h2⟩ := bp_tup b1
      exact ⟨p, vs, rfl, .inr ⟨sqt_up T.sub h1, q _ F H .refl T (.dp (.tup h1 h2))⟩⟩
  · exact q.elim
theorem k_list : CallR X (.type "list") (rDs X.K cList) := by
  intro pins s σ H xs us Q I rx h
  obtain ⟨dr, F, ds, T, bx, q⟩ := h
  refine call_list_of pins s σ H xs us Q I rx ?_
  unfold cList at q
  split at q
  · cases bx with
    | cons b1 bx =>
      cases bx
      obtain ⟨p, vs, rfl, h1, h2⟩ := bp_list T b1
      refine ⟨p, vs, rfl, .inl h1, fun l hl => ?_⟩
      obtain ⟨S2, T2⟩ := lay T hl (.lst vs)
      exact q _ _ _ S2 T2 (.dp (.lst (.inl (.inl upd_same)) (dpa_up S2.up _ _ h2)))
  · cases bx with
    | cons b1 bx =>
      cases bx
      obtain ⟨p, vs, rfl, h1, h2⟩ := bp_tup b1
      refine ⟨p, vs, rfl, .inr (sqt_up T.sub h1), fun l hl => ?_⟩
      obtain ⟨S2, T2⟩ := lay T hl (.lst vs)
      exact q _ _ _ S2 T2 (.dp (.lst (.inl (.inl upd_same)) (dpa_up S2.up _ _ h2)))
  · exact q.elim
theorem k_sum (hc : X.calm = true) : CallR X (.builtin "sum") (rDs X.K cSum) := by
  intro pins s σ H xs us Q I rx h
  obtain ⟨dr, F, ds, T, bx, q⟩ := h
  refine cr_sum hc pins s σ H xs us Q I rx ?_
  unfold cSum at q
  split at q
  · cases bx with
    | cons b1 bx =>
      cases bx
      split at q
      · rename_i ns e
        have e := asInts_eq e
        subst e
        obtain ⟨p, vs, rfl, h1, h2⟩ := bp_list T b1
        cases dpa_ints h2
        exact ⟨p, ns, rfl, h1, q _ F H .refl T (.dp (.int _))⟩
      · exact q.elim
  · exact q.elim
theorem k_all (hc : X.calm = true) : CallR X (.builtin "all") (rDs X.K cAll) := by
  intro pins s σ H xs us Q I rx h
  obtain ⟨dr, F, ds, T, bx, q⟩ := h
  refine cr_all hc pins s σ H xs us Q I rx ?_
  unfold cAll at q
  split at q
  · cases bx with
    | cons b1 bx =>
      cases bx
      split at q
      · rename_i ns e
        have e := asBools_eq e
        subst e
        obtain ⟨p, vs, rfl, h1, h2⟩ := bp_list T b1
        cases dpa_bools h2
        exact ⟨p, ns, rfl, h1, q _ F H .refl T (.dp (.bl _))⟩
      · exact q.elim
  · exact q.elim
theorem k_any (hc : X.calm = true) : CallR X (.builtin "any") (rDs X.K cAny) := by
  intro pins s σ H xs us Q I rx h
  obtain ⟨dr, F, ds, T, bx, q⟩ := h
  refine cr_any hc pins s σ H xs us Q I rx ?_
  unfold cAny at q
  split at q
  · cases bx with
    | cons b1 bx =>
      cases bx
      split at q
      · rename_i ns e
        have e := asBools_eq e
        subst e
        obtain ⟨p, vs, rfl, h1, h2⟩ := bp_list T b1
        cases dpa_bools h2
        exact ⟨p, ns, rfl, h1, q _ F H .refl T (.dp (.bl _))⟩
      · exact q.elim
  · exact q.elim
end
end Fs

set_option Elab.async false
set_option linter.all false
set_option maxRecDepth 100000
set_option maxHeartbeats 2000000
set_option autoImplicit false
namespace Fs
open PySem PySem.Spec PyProof.Rows L2
/-! ### isinstance(x, T), T a built-in type -/
def tyD : D → Option String
  | .none => some "NoneType"
  | .bool _ => some "bool"
  | .int _ => some "int"
  | .str _ => some "str"
  | .list _ => some "list"
  | .tuple _ => some "tuple"
  | .dict _ => none
def vIsi (T : String) (d : D) : Cm D := match tyD d with
  | some t => match kitB t T with
    | some b => .ret (.bool b)
    | none => .bad
  | none => .bad
def dIsi (T : String) (f : DE) : DE := fun env => (f env).bind (vIsi T)
section
variable {X : Cx} {e a b c : Expr} {es : List Expr} {f f1 f2 f3 : DE} {fs : DEs} {t u : DT} {pos : Pos}
theorem ty_l {K : PySem.W.Frag} {H : Hp} {p : Addr} {xs : List V} (h : SqL K H p xs) : TyX K H (.ref p) (.type "list") := by
  rcases h with (h | ⟨o, h⟩) | ⟨o, its, n, h1, h2, _⟩
  · exact .base (.lst h)
  · exact .base (.frz h)
  · exact .kList h1 h2
theorem ty_t {K : PySem.W.Frag} {H : Hp} {p : Addr} {xs : List V} (h : SqT K H p xs) : TyX K H (.ref p) (.type "tuple") := by
  rcases h with (h | ⟨o, h⟩) | ⟨o, its, n, h1, h2, _⟩
  · exact .base (.tup h)
  · exact .fTuple h
  · exact .kTuple h1 h2
theorem bp_ty {K : PySem.W.Frag} {dr : Dr} {F H : Hp} {v : V} {d : D} {t : String} (s : Stt dr F H) (h : Bp K dr F H v d) (e : tyD d = some t) : TyX K H v (.type t) := by
  cases d with
  | none => cases e; cases bp_isnone h; exact .base .non
  | bool b => cases e; cases bp_bl h; exact .base (.bl b)
  | int b => cases e; cases bp_int h; exact .base (.int b)
  | str x =>
    cases e
    cases h with
    | r h =>
      cases h with
      | dp z => cases z; exact .base (.str x)
    | own _ _ o => exact o.elim
  | list ds => cases e; obtain ⟨p, vs, rfl, h1, _⟩ := bp_list s h; exact ty_l h1
  | tuple ds => cases e; obtain ⟨p, vs, rfl, h1, _⟩ := bp_tup h; exact ty_t (sqt_up s.sub h1)
  | dict _ => cases e
theorem e_isi {T : String} {T' : Str} {p p2 : Pos} (hg : Gl X "isinstance") (hm : X.mg "isinstance" = none) (hv : bootBuiltins "isinstance" = some (.builtin "isinstance")) (hgT : Gl X T') (hmT : X.mg T' = none) (hvT : bootBuiltins T' = some (.type T))
    (he : PE X e (tB X.K f)) (hn : T' ≠ "__name__" := by decide) (hd : (T' == ("__debug__" : Str)) = false := by decide)
    (hs1 : starEach (e :: [.Name T' p2]) X.env = (false, eval e X.env) :: starEach [.Name T' p2] X.env := by rfl) (hs2 : starEach (.Name T' p2 :: []) X.env = (false, eval (.Name T' p2) X.env) :: starEach [] X.env := by rfl) (hpl : (backTo pos (starEach [.Name T' p2] X.env)).any (·.1) = false := by rfl) :
    PE X (.Call (.Name "isinstance" p) [e, .Name T' p2] [] pos) (tE X.K (dIsi T f)) :=
  pe_imp (pe_callB call_isi hg hm hv (pa_cons he (pa_cons (pe_bltn (v := .ty T) hgT hmT hvT rfl hn hd) pa_nil hs2) hs1) (by decide) (by decide) hs1 hpl) fun σ H Q ⟨dr, B, F, env, s, r, q⟩ => ⟨dr, B, F, env, s, r, Cm.All.mono (by
    intro d k v F1 H1 S1 T1 b1
    unfold vIsi at k
    split at k
    · rename_i t ht
      split at k
      · rename_i b hb
        exact ⟨v, .ty T, .type t, .type T, b, rfl, .ty T, bp_ty T1 b1 ht, kit_ty hb, k _ F1 H1 S1 T1 (.dp (.bl _))⟩
      · exact k.elim
    · exact k.elim) (Cm.all_bind.mp q)⟩
/-- f(..), f a module's name for a built-in function -/
theorem e_callBf {id : String} {x : Str} {p : Pos} {g : List D → Cm D} (hc : CallR X (.builtin id) (rDs X.K g)) (hg : Gl X x) (hm : X.mg x = some (.builtin id)) (ha : PA X (e :: es) (tAb X.K fs)) (hdb : (x == ("__debug__" : Str)) = false := by decide)
    (he : starEach (e :: es) X.env = (false, eval e X.env) :: starEach es X.env := by rfl) (hpl : (backTo pos (starEach es X.env)).any (·.1) = false := by rfl) : PE X (.Call (.Name x p) (e :: es) [] pos) (tE X.K (dCall g fs)) :=
  pe_imp (pe_callBfun hc hg hm ha hdb he hpl) fun _ _ _ h => cb_red h
/-! ### a < b < c -/
def dChain (g g' : D → D → Cm D) (f1 f2 f3 : DE) : DE := fun env => (f1 env).bind fun x => (f2 env).bind fun y => (g x y).bind fun z => match z with
  | .bool b => if b = true then (f3 env).bind fun w => g' y w else .ret (.bool false)
  | _ => .bad
theorem chain_red {K : PySem.W.Frag} {g g' : D → D → Cm D} {σ : L2.St} {H : Hp} {Q : VK} (h : tE K (dChain g g' f1 f2 f3) σ H Q) : tChain (rD2 K g) (rD2 K g') (tB K f1) (tB K f2) (tB K f3) σ H Q := by
  obtain ⟨dr, B, F, env, s, r, q⟩ := h
  refine ⟨dr, B, F, env, s, r, Cm.All.mono (fun x k v F1 H1 S1 T1 b1 => ?_) (Cm.all_bind.mp q)⟩
  refine ⟨dr, B, F1, env, T1, r.step S1, Cm.All.mono (fun y k2 u F2 H2 S2 T2 b2 => ?_) (Cm.all_bind.mp k)⟩
  refine ⟨dr, F2, x, y, T2, b1.step S2, b2, Cm.All.mono (fun d k3 w F3 H3 S3 T3 rw3 => ?_) (Cm.all_bind.mp k2)⟩
  cases d with
  | bool b =>
    refine ⟨b, bl_of rw3, ?_⟩
    cases b with
    | true =>
      refine ⟨dr, B, F3, env, T3, ((r.step S1).step S2).step S3, Cm.All.mono (fun z k4 w4 F4 H4 S4 T4 b4 => ?_) (Cm.all_bind.mp k3)⟩
      exact ⟨dr, F4, y, z, T4, (b2.step S3).step S4, b4, Cm.All.mono (fun d5 k5 w5 F5 H5 S5 T5 => k5 w5 F5 H5 (S1.trans (S2.trans (S3.trans (S4.trans S5 T5) T5) T5) T5) T5) k4⟩
    | false => exact k3 _ F3 H3 (S1.trans (S2.trans S3 T3) T3) T3 (.dp (.bl _))
  | none => exact k3.elim
  | int _ => exact k3.elim
  | str _ => exact k3.elim
  | list _ => exact k3.elim
  | tuple _ => exact k3.elim
  | dict _ => exact k3.elim
theorem e_chain {op op' : CmpOp} {g g' : D → D → Cm D} (ho : OpR X (compareOp op) (rD2 X.K g)) (ho' : OpR X (compareOp op') (rD2 X.K g')) (ha : PE X a (tB X.K f1)) (hb : PE X b (tB X.K f2)) (hc : PE X c (tB X.K f3))
    (hm : lastMarks [op, op'] [b, c] = false := by with_unfolding_all rfl) : PE X (.Compare a [op, op'] [b, c] pos) (tE X.K (dChain g g' f1 f2 f3)) :=
  pe_imp (pe_chain ho ho' ha hb hc hm) fun _ _ _ h => chain_red h
theorem t_chain {op op' : CmpOp} {g g' : D → D → Cm D} (ho : OpR X (compareOp op) (rD2 X.K g)) (ho' : OpR X (compareOp op') (rD2 X.K g')) (ha : PE X a (tB X.K f1)) (hb : PE X b (tB X.K f2)) (hc : PE X c (tB X.K f3))
    (hm : lastMarks [op, op'] [b, c] = false := by with_unfolding_all rfl) : PT X (.Compare a [op, op'] [b, c] pos) (tT X.K (dTru (dChain g g' f1 f2 f3))) :=
  pt_imp (pt_chain ho ho' ha hb hc hm) fun _ _ _ h => chain_red (tru_red h)
def dPar3 (i j l : Nat) (f1 f2 f3 : DE) : DS := fun env => (f1 env).bind fun d1 => (f2 env).bind fun d2 => (f3 env).bind fun d3 => .ret (.nx (((env.set i (.val d1)).set j (.val d2)).set l (.val d3)))
end
end Fs

set_option Elab.async false
set_option linter.all false
set_option maxRecDepth 100000
set_option maxHeartbeats 2000000
set_option autoImplicit false
namespace Fs
open PySem PySem.Spec PyProof.Rows L2 RZ

/-! ### zip of two, range with a step -/
def zip2 : List D → List D → List D
  | x :: xs, y :: ys => .tuple [x, y] :: zip2 xs ys
  | _, _ => []
theorem zip2_get : ∀ {xs ys : List D} {i : Nat} {d : D}, (zip2 xs ys)[i]? = some d → ∃ x y, xs[i]? = some x ∧ ys[i]? = some y ∧ d = .tuple [x, y]
  | [], _, _, _, h => by simp [zip2] at h
  | _ :: _, [], _, _, h => by simp [zip2] at h
  | x :: xs, y :: ys, 0, d, h => by simp [zip2] at h; exact ⟨x, y, rfl, rfl, h.symm⟩
  | x :: xs, y :: ys, i + 1, d, h => by
    obtain ⟨a, b, h1, h2, h3⟩ := zip2_get (xs := xs) (ys := ys) (i := i) (d := d) (by simpa [zip2] using h)
    exact ⟨a, b, by simpa using h1, by simpa using h2, h3⟩
theorem zip2_len : ∀ (xs ys : List D), (zip2 xs ys).length = min xs.length ys.length
  | [], _ => by simp [zip2]
  | _ :: _, [] => by simp [zip2]
  | _ :: xs, _ :: ys => by simp [zip2, zip2_len xs ys] <;> omega
theorem itok_zipT {K : PySem.W.Frag} {dr : Dr} {F : Hp} {a b : Addr} {xs ys : List V} {ds es : List D} (h : SqT K F a xs) (ha : DpAll K F xs ds) (h2 : SqT K F b ys) (hb : DpAll K F ys es) : ItOk K dr (ItzT K a b) (zip2 ds es) F where
  stop := fun F1 H1 i up s hi => ⟨xs, ys, sqt_up s.sub (sqt_up up h), sqt_up s.sub (sqt_up up h2), by
    rw [zip2_len] at hi
    rw [dpa_len ha, dpa_len hb]
    omega⟩
  go := fun F1 H1 i d up s hd => by
    obtain ⟨x, y, e1, e2, rfl⟩ := zip2_get hd
    obtain ⟨v, hv, dv⟩ := dpa_get ha e1
    obtain ⟨w, hw, dw⟩ := dpa_get hb e2
    have q1 := sqt_up s.sub (sqt_up up h)
    have q2 := sqt_up s.sub (sqt_up up h2)
    refine ⟨⟨xs, ys, v, w, q1, q2, hv, hw⟩, fun z H2 yl => ?_⟩
    obtain ⟨T, x1, y1, rfl, nT, rfl, f1, f2⟩ := yl
    have z1 := f1 xs q1
    have z2 := f2 ys q2
    rw [hv] at z1; cases z1
    rw [hw] at z2; cases z2
    obtain ⟨S2, T2⟩ := lay s nT (.tup [v, w])
    exact ⟨_, S2, T2, .dp (.tup (.inl (.inl upd_same)) (.cons (dp_up S2.up _ _ (dp_up up _ _ dv)) (.cons (dp_up S2.up _ _ (dp_up up _ _ dw)) .nil)))⟩
theorem itok_zipL {K : PySem.W.Frag} {dr : Dr} {F : Hp} {a b : Addr} {xs ys : List V} {ds es : List D} (h : SqL K F a xs) (ha : DpAll K F xs ds) (h2 : SqL K F b ys) (hb : DpAll K F ys es) : ItOk K dr (Itz K a b) (zip2 ds es) F where
  stop := fun F1 H1 i up s hi => ⟨xs, ys, sql_up s.sub (sql_up up h), sql_up s.sub (sql_up up h2), by
    rw [zip2_len] at hi
    rw [dpa_len ha, dpa_len hb]
    omega⟩
  go := fun F1 H1 i d up s hd => by
    obtain ⟨x, y, e1, e2, rfl⟩ := zip2_get hd
    obtain ⟨v, hv, dv⟩ := dpa_get ha e1
    obtain ⟨w, hw, dw⟩ := dpa_get hb e2
    have q1 := sql_up s.sub (sql_up up h)
    have q2 := sql_up s.sub (sql_up up h2)
    refine ⟨⟨xs, ys, v, w, q1, q2, hv, hw⟩, fun z H2 yl => ?_⟩
    obtain ⟨T, x1, y1, rfl, nT, rfl, f1, f2⟩ := yl
    have z1 := f1 xs q1
    have z2 := f2 ys q2
    rw [hv] at z1; cases z1
    rw [hw] at z2; cases z2
    obtain ⟨S2, T2⟩ := lay s nT (.tup [v, w])
    exact ⟨_, S2, T2, .dp (.tup (.inl (.inl upd_same)) (.cons (dp_up S2.up _ _ (dp_up up _ _ dv)) (.cons (dp_up S2.up _ _ (dp_up up _ _ dw)) .nil)))⟩
def dZip2 (fs : DEs) : DEs := fun env => (fs env).bind fun ds => match ds with
  | [.tuple a, .tuple b] => .ret (zip2 a b)
  | [.list a, .list b] => .ret (zip2 a b)
  | _ => .bad
def rngC (lo c : Int) (n : Nat) : List D := (List.range n).map fun (i : Nat) => PyData.int (lo + (i : Int) * c)
theorem rngC_get {lo c : Int} {n i : Nat} {d : D} (h : (rngC lo c n)[i]? = some d) : i < n ∧ d = .int (lo + (i : Int) * c) := by
  unfold rngC at h
  rw [List.getElem?_map] at h
  by_cases hi : i < n
  · rw [List.getElem?_range hi] at h
    cases h
    exact ⟨hi, rfl⟩
  · rw [List.getElem?_eq_none (by simpa using hi)] at h; cases h
theorem itok_rngC {K : PySem.W.Frag} {dr : Dr} {F : Hp} (lo c : Int) (n : Nat) : ItOk K dr (Itc lo c n) (rngC lo c n) F where
  stop := fun F1 H1 i up s hi => by
    have : (rngC lo c n).length = n := by simp [rngC]
    show n ≤ i
    omega
  go := fun F1 H1 i d up s hd => by
    obtain ⟨h1, rfl⟩ := rngC_get hd
    refine ⟨h1, fun x H2 y => ?_⟩
    obtain ⟨e, y⟩ := y
    subst e
    subst y
    exact ⟨F1, .refl, s, .dp (.int _)⟩
def dRng3 (fs : DEs) : DEs := fun env => (fs env).bind fun ds => match ds with
  | [.int i, .int j, .int c] => if c ≠ 0 ∧ c.natAbs < 1073741824 ∧ Builtin.Range.small i j c = true ∧ 0 ≤ Builtin.Range.rangeSize i j c then .ret (rngC i c (Builtin.Range.rangeSize i j c).toNat) else .bad
  | _ => .bad
section
variable {X : Cx} {tg e a b c : Expr} {es : List Expr} {f f1 f2 f3 : DE} {fs : DEs} {t u : DT} {pos : Pos}
theorem i_zip2 {p tpos : Pos} {elts : List Expr} {kk : Nat} (hg : Gl X "zip") (hm : X.mg "zip" = none) (ha : PA X [a, b] (tA X.K fs))
    (hs : starEach [a, b] X.env = (false, eval a X.env) :: starEach [b] X.env := by rfl) (hpl : (backTo pos (starEach [b] X.env)).any (·.1) = false := by rfl) :
    PI X (.Tuple elts kk tpos) (.Call (.Name "zip" p) [a, b] [] pos) (tI X.K (dZip2 fs)) :=
  pi_imp (pi_zipA hg hm ha hs hpl) fun σ H R ⟨dr, B, F, env, s, r, q⟩ => ⟨dr, B, F, env, s, r, Cm.All.mono (by
    intro ds k vs F' H' S' T' rv
    split at k
    · cases rv with
      | cons r1 rv =>
        cases rv with
        | cons r2 rv =>
          cases rv
          obtain ⟨p1, v1, rfl, h1, h2⟩ := bp_tup (.r (H := H') r1)
          obtain ⟨p2, v2, rfl, h3, h4⟩ := bp_tup (.r (H := H') r2)
          exact ⟨p1, p2, v1, v2, rfl, .inr ⟨sqt_up T'.sub h1, sqt_up T'.sub h3, k _ F' H' S' T' (itok_zipT h1 h2 h3 h4)⟩⟩
    · cases rv with
      | cons r1 rv =>
        cases rv with
        | cons r2 rv =>
          cases rv
          cases r1 with
          | dp z1 =>
            cases z1 with
            | lst h1 h2 =>
              cases r2 with
              | dp z2 =>
                cases z2 with
                | lst h3 h4 => exact ⟨_, _, _, _, rfl, .inl ⟨sql_up T'.sub h1, sql_up T'.sub h3, k _ F' H' S' T' (itok_zipL h1 h2 h3 h4)⟩⟩
    · exact k.elim) (Cm.all_bind.mp q)⟩
theorem i_rng3 {p : Pos} (hg : Gl X "range") (hm : X.mg "range" = none) (ha : PA X [a, b, c] (tA X.K fs))
    (hs : starEach [a, b, c] X.env = (false, eval a X.env) :: starEach [b, c] X.env := by rfl) (hpl : (backTo pos (starEach [b, c] X.env)).any (·.1) = false := by rfl) :
    PI X tg (.Call (.Name "range" p) [a, b, c] [] pos) (tI X.K (dRng3 fs)) :=
  pi_imp (pi_range3 hg hm ha hs hpl) fun σ H R ⟨dr, B, F, env, s, r, q⟩ => ⟨dr, B, F, env, s, r, Cm.All.mono (by
    intro ds k vs F' H' S' T' rv
    split at k
    · rename_i i j cc
      cases rv with
      | cons r1 rv =>
        cases rv with
        | cons r2 rv =>
          cases rv with
          | cons r3 rv =>
            cases rv
            cases rp_int r1
            cases rp_int r2
            cases rp_int r3
            split at k
            · rename_i hj
              exact ⟨i, j, cc, _, rfl, ⟨hj.1, hj.2.1, hj.2.2.1, (Int.toNat_of_nonneg hj.2.2.2).symm⟩, k _ F' H' S' T' (itok_rngC i cc _)⟩
            · exact k.elim
    · exact k.elim) (Cm.all_bind.mp q)⟩
end

end Fs

set_option Elab.async false
set_option linter.all false
set_option maxRecDepth 100000
set_option maxHeartbeats 2000000
set_option autoImplicit false
namespace Fs
open PySem PySem.Spec PyProof.Rows L2

/-! ### dicts: keys whole numbers and texts, or tuples of whole numbers -/
def keyEq : D → D → Bool
  | .int i, .int j => i == j
  | .str i, .str j => decide (i = j)
  | .tuple as, .tuple bs => decide (nks as = nks bs)
  | _, _ => false
def isKey : D → Bool
  | .int _ => true
  | .str _ => true
  | _ => false
def putD (kvs : List (D × D)) (k v : D) : List (D × D) := if (kvs.any fun e => keyEq e.1 k) = true then kvs.map (fun e => if keyEq e.1 k = true then (e.1, v) else e) else kvs ++ [(k, v)]
def lookD (kvs : List (D × D)) (k : D) : Option D := (kvs.find? fun e => keyEq e.1 k).map (·.2)
/-- the key is of the kind of the dict's keys -/
def keyOk (kvs : List (D × D)) (k : D) : Bool := (isKey k && match kvs with | [] => true | e :: _ => isKey e.1) || (isTK k && match kvs with | [] => true | e :: _ => isTK e.1)
theorem key_flat {d : D} (h : isKey d = true) : flatD d = true := by
  cases d with
  | dict _ => cases h
  | none => rfl
  | bool _ => rfl
  | int _ => rfl
  | str _ => rfl
  | list _ => rfl
  | tuple _ => rfl
theorem tk_flat {d : D} (h : isTK d = true) : flatD d = true := by
  cases d with
  | tuple _ => rfl
  | none => rfl
  | bool _ => rfl
  | int _ => rfl
  | str _ => rfl
  | list _ => rfl
  | dict _ => cases h
theorem tk_nokey {d : D} (h : isTK d = true) : isKey d = false := by
  cases d with
  | tuple _ => rfl
  | none => rfl
  | bool _ => rfl
  | int _ => cases h
  | str _ => cases h
  | list _ => rfl
  | dict _ => rfl
theorem keyOk_flat {kvs : List (D × D)} {k : D} (h : keyOk kvs k = true) : flatD k = true := by
  unfold keyOk at h
  rw [Bool.or_eq_true, Bool.and_eq_true, Bool.and_eq_true] at h
  rcases h with h | h
  · exact key_flat h.1
  · exact tk_flat h.1
theorem tk_parts {d : D} (h : isTK d = true) : (∃ ds, d = .tuple ds) ∧ tkI d = true ∧ (nk d).depth ≤ 8 := by
  unfold isTK at h
  rw [Bool.and_eq_true, Bool.and_eq_true, decide_eq_true_eq] at h
  refine ⟨?_, h.1.2, h.2⟩
  cases d with
  | tuple ds => exact ⟨ds, rfl⟩
  | none => cases h.1.1
  | bool _ => cases h.1.1
  | int _ => cases h.1.1
  | str _ => cases h.1.1
  | list _ => cases h.1.1
  | dict _ => cases h.1.1
theorem keyEq_tk {a b : D} (ha : isTK a = true) (hb : isTK b = true) : keyEq a b = decide (nk a = nk b) := by
  obtain ⟨⟨as, rfl⟩, _⟩ := tk_parts ha
  obtain ⟨⟨bs, rfl⟩, _⟩ := tk_parts hb
  show decide (nks as = nks bs) = decide (nk (.tuple as) = nk (.tuple bs))
  rw [nk, nk]
  by_cases h : nks as = nks bs
  · rw [h]; simp
  · rw [decide_eq_false h, decide_eq_false]
    intro z
    injection z with z
    exact h z
def asKey : D → Key
  | .int i => .inl i
  | .str s => .inr s
  | _ => .inl 0
mutual
theorem hash_nk (w : World) : ∀ d : D, tkI d = true → (nk d).hash w = hash0 (nk d)
  | .int i, _ => by rw [nk, NestedKey.hash, hash0]
  | .tuple ds, h => by
    rw [tkI] at h
    rw [nk, NestedKey.hash, hash0, hashes_nk w ds h]
  | .none, h => by cases h
  | .bool _, h => by cases h
  | .str _, h => by cases h
  | .list _, h => by cases h
  | .dict _, h => by cases h
theorem hashes_nk (w : World) : ∀ ds : List D, tkIs ds = true → NestedKey.hashes w (nks ds) = hashes0 (nks ds)
  | [], _ => by rw [nks, NestedKey.hashes, hashes0]
  | d :: ds, h => by
    rw [tkIs, Bool.and_eq_true] at h
    rw [nks, NestedKey.hashes, hashes0, hash_nk w d h.1, hashes_nk w ds h.2]
end
section
variable {X : Cx} {pins : List (Addr × Obj)} {σ : L2.St} {H : Hp} {s : Shared}
mutual
/-- what stands for the data is the key -/
theorem nk_is (I : Inv X pins σ H s) : ∀ (d : D) (v : V) (u : Value), tkI d = true → Dp X.K H v d → RelV v u → NestedIs s.heap (nk d) u
  | .int i, v, u, _, h, r => by
    cases h
    obtain ⟨t, e⟩ := (show ∃ t, u = Value.int i t from r)
    subst e
    rw [nk]
    exact .int i t
  | .tuple ds, v, u, hk, h, r => by
    rw [tkI] at hk
    cases h with
    | tup hs ha =>
      obtain ⟨its, rv, ⟨o, h1, h2, n, h3⟩, _⟩ := I.tuple hs
      cases (show u = Value.ref _ from r)
      rw [nk]
      exact .tup h1 h2 h3 (by simpa using nks_are I ds _ its hk ha rv)
  | .none, _, _, hk, _, _ => by cases hk
  | .bool _, _, _, hk, _, _ => by cases hk
  | .str _, _, _, hk, _, _ => by cases hk
  | .list _, _, _, hk, _, _ => by cases hk
  | .dict _, _, _, hk, _, _ => by cases hk
theorem nks_are (I : Inv X pins σ H s) : ∀ (ds : List D) (vs : List V) (us : List Value), tkIs ds = true → DpAll X.K H vs ds → Vals vs us → NestedAll s.heap (nks ds) us
  | [], _, _, _, h, r => by
    cases h
    cases r
    rw [nks]
    exact .nil
  | d :: ds, _, _, hk, h, r => by
    rw [tkIs, Bool.and_eq_true] at hk
    cases h with
    | cons h1 h2 =>
      cases r with
      | cons r1 r2 =>
        rw [nks]
        exact .cons (nk_is I d _ _ hk.1 h1 r1) (nks_are I ds _ _ hk.2 h2 r2)
end
theorem tk_is (I : Inv X pins σ H s) {d : D} {b : Addr} (hk : isTK d = true) (h : Dp X.K H (.ref b) d) : (nestedKind X.prog X.w).is s.heap (nk d) b :=
  ⟨nk_is I d _ _ (tk_parts hk).2.1 h rfl, (tk_parts hk).2.2⟩
theorem ent_of {K : PySem.W.Frag} {F : Hp} {P : Program} {w : World} {x : Ent} {y : D × D} (h : EntOk K F x y) : entryOfKey (nestedKind P w) x = entOf x := by
  obtain ⟨h1, h2, _⟩ := h
  show (⟨x.1.hash w, .ref x.2.1, x.2.2⟩ : DictEntry) = ⟨hash0 x.1, .ref x.2.1, x.2.2⟩
  rw [← h2, hash_nk w y.1 (tk_parts h1).2.1]
theorem ents_of {K : PySem.W.Frag} {F : Hp} {P : Program} {w : World} : ∀ {xs : List Ent} {kvs : List (D × D)}, Paired (EntOk K F) xs kvs → xs.map (entryOfKey (nestedKind P w)) = xs.map entOf
  | _, _, .nil => rfl
  | _, _, .cons r t => by rw [List.map_cons, List.map_cons, ent_of r, ents_of t]
theorem ent_is (I : Inv X pins σ H s) : ∀ {xs : List Ent} {kvs : List (D × D)}, Paired (EntOk X.K H) xs kvs → ∀ x ∈ xs, (nestedKind X.prog X.w).is s.heap x.1 x.2.1
  | _, _, .nil, x, h => by cases h
  | _, _, .cons r t, x, h => by
    rcases List.mem_cons.mp h with rfl | h
    · obtain ⟨h1, h2, h3, _⟩ := r
      rw [← h2]
      exact tk_is I h1 h3
    · exact ent_is I t x h
theorem xo_get (I : Inv X pins σ H s) {p : Addr} {o : Obj} (h : H p = some (XO p o)) : s.heap.get? p = some o := (I.hok p _ h).1
theorem xo_new {P : Program} {w : World} {H : Hp} {h : Heap} {p : Addr} {o : Obj} (e : h.get? p = some o) : ObjOk P w H h p (XO p o) := ⟨e, ⟨o, e⟩, fun _ _ e1 k => k _ e1⟩
/-- the dict at p, as the machine has it -/
theorem ka_dict {F : Hp} (I : Inv X pins σ H s) (T : ∀ a o, F a = some o → H a = some o) {p : Addr} {kvs : List (D × D)} {xs : List Ent} {o : Obj} {ep : Nat} (h : KeyAt X.K F H p kvs xs o ep) : s.heap.DictOfH (nestedKind X.prog X.w) p xs := by
  have he : Paired (EntOk X.K H) xs kvs := paired_mono (fun _ _ q => q.up T) h.ents
  exact ⟨o, _, ep, xo_get I h.at', h.ex, h.dat, by rw [List.toList_toArray, ents_of (P := X.prog) (w := X.w) he], ent_is I he, h.nodup⟩
/-- an empty one, too -/
theorem dk_nil (I : Inv X pins σ H s) {p : Addr} (h : H p = some (.dK [])) : (p == sysModules) = false ∧ s.heap.DictOfH (nestedKind X.prog X.w) p [] := by
  obtain ⟨_, hd, vs, rel, dd⟩ := dk_of I.hok h
  cases rel
  obtain ⟨o, es, ep, ho, hc, hdat, _, hp, _⟩ := dd
  have e0 : es.toList = [] := by
    have := hp.length
    exact List.eq_nil_of_length_eq_zero (by simpa using this)
  exact ⟨hd, o, es, ep, ho, hc, hdat, by rw [e0]; rfl, (fun x hx => nomatch hx), List.nodup_nil⟩

/-! looking up -/
theorem key_dp {K : PySem.W.Frag} {F : Hp} {k : Key} {d : D} (h : Dp K F (kV k) d) : isKey d = true ∧ asKey d = k := by
  cases k with
  | inl i => cases h; exact ⟨rfl, rfl⟩
  | inr s => cases h; exact ⟨rfl, rfl⟩
theorem dp_key {K : PySem.W.Frag} {F : Hp} {v : V} {d : D} (h : Dp K F v d) (hk : isKey d = true) : v = kV (asKey d) := by
  cases d with
  | int i => cases h; rfl
  | str i => cases h; rfl
  | none => cases hk
  | bool _ => cases hk
  | list _ => cases hk
  | tuple _ => cases hk
  | dict _ => cases hk
theorem keyEq_as {a b : D} (ha : isKey a = true) (hb : isKey b = true) : keyEq a b = decide (asKey a = asKey b) := by
  cases a with
  | int i =>
    cases b with
    | int j => simp [keyEq, asKey]; exact (Bool.beq_eq_decide_eq i j)
    | str j => simp [keyEq, asKey]
    | none => cases hb
    | bool _ => cases hb
    | list _ => cases hb
    | tuple _ => cases hb
    | dict _ => cases hb
  | str i =>
    cases b with
    | int j => simp [keyEq, asKey]
    | str j => simp [keyEq, asKey]
    | none => cases hb
    | bool _ => cases hb
    | list _ => cases hb
    | tuple _ => cases hb
    | dict _ => cases hb
  | none => cases ha
  | bool _ => cases ha
  | list _ => cases ha
  | tuple _ => cases ha
  | dict _ => cases ha
abbrev KvOk (K : PySem.W.Frag) (F : Hp) (x : Key × V) (y : D × D) : Prop := Dp K F (kV x.1) y.1 ∧ Dp K F x.2 y.2
theorem kv_look {K : PySem.W.Frag} {F : Hp} {k : D} (hk : isKey k = true) : ∀ {ks : List (Key × V)} {kvs : List (D × D)}, Paired (KvOk K F) ks kvs →
    (∀ d, lookD kvs k = some d → ∃ v, valV ks (asKey k) = some v ∧ Dp K F v d) ∧ (lookD kvs k = none → valV ks (asKey k) = none)
  | _, _, .nil => ⟨fun d h => by simp [lookD] at h, fun _ => rfl⟩
  | (k1, v1) :: ks, (d1, e1) :: kvs, .cons r t => by
    obtain ⟨h1, h2⟩ := key_dp r.1
    have e := keyEq_as h1 hk
    have ih := kv_look hk t
    by_cases hc : k1 = asKey k
    · have ec : keyEq d1 k = true := by rw [e, h2]; exact decide_eq_true hc
      have l1 : lookD ((d1, e1) :: kvs) k = some e1 := by simp [lookD, List.find?_cons, ec]
      refine ⟨fun d h => ?_, fun h => ?_⟩
      · rw [l1] at h; cases h; exact ⟨v1, valV_pos (p := (k1, v1)) hc, r.2⟩
      · rw [l1] at h; cases h
    · have ec : keyEq d1 k = false := by rw [e, h2]; exact decide_eq_false hc
      have l1 : lookD ((d1, e1) :: kvs) k = lookD kvs k := by simp [lookD, List.find?_cons, ec]
      rw [l1, valV_neg (p := (k1, v1)) hc]
      exact ih
theorem paired_app {α β : Type} {R : α → β → Prop} : ∀ {xs zs : List α} {ys ws : List β}, Paired R xs ys → Paired R zs ws → Paired R (xs ++ zs) (ys ++ ws)
  | _, _, _, _, .nil, h => h
  | _, _, _, _, .cons r t, h => .cons r (paired_app t h)
theorem kv_any {K : PySem.W.Frag} {F : Hp} {k : D} (hk : isKey k = true) : ∀ {ks : List (Key × V)} {kvs : List (D × D)}, Paired (KvOk K F) ks kvs → (ks.any fun kv => decide (kv.1 = asKey k)) = (kvs.any fun e => keyEq e.1 k)
  | _, _, .nil => rfl
  | (k1, v1) :: ks, (d1, e1) :: kvs, .cons r t => by
    obtain ⟨h1, h2⟩ := key_dp r.1
    have e := keyEq_as h1 hk
    simp only [List.any_cons]
    rw [kv_any hk t, e, h2]
theorem kv_map {K : PySem.W.Frag} {F : Hp} {k d : D} {v : V} (hk : isKey k = true) (hv : Dp K F v d) : ∀ {ks : List (Key × V)} {kvs : List (D × D)}, Paired (KvOk K F) ks kvs →
    Paired (KvOk K F) (ks.map fun kv => if kv.1 = asKey k then (kv.1, v) else kv) (kvs.map fun e => if keyEq e.1 k = true then (e.1, d) else e)
  | _, _, .nil => .nil
  | (k1, v1) :: ks, (d1, e1) :: kvs, .cons r t => by
    obtain ⟨h1, h2⟩ := key_dp r.1
    have e := keyEq_as h1 hk
    refine .cons ?_ (kv_map hk hv t)
    show KvOk K F (if k1 = asKey k then (k1, v) else (k1, v1)) (if keyEq d1 k = true then (d1, d) else (d1, e1))
    by_cases hc : k1 = asKey k
    · rw [if_pos hc, if_pos (by rw [e, h2]; exact decide_eq_true hc)]
      exact ⟨r.1, hv⟩
    · rw [if_neg hc, if_neg (by rw [e, h2]; exact fun z => hc (of_decide_eq_true z))]
      exact r
theorem kv_put {K : PySem.W.Frag} {F : Hp} {k d : D} {v : V} {ks : List (Key × V)} {kvs : List (D × D)} (hk : isKey k = true) (hv : Dp K F v d) (h : Paired (KvOk K F) ks kvs) : Paired (KvOk K F) (putK ks (asKey k) v) (putD kvs k d) := by
  unfold putK putD
  rw [kv_any hk h]
  split
  · exact kv_map hk hv h
  · refine paired_app h (.cons ⟨?_, hv⟩ .nil)
    cases k with
    | int i => exact .int i
    | str i => exact .str i
    | none => cases hk
    | bool _ => cases hk
    | list _ => cases hk
    | tuple _ => cases hk
    | dict _ => cases hk
theorem en_look {K : PySem.W.Frag} {F : Hp} {k : D} (hk : isTK k = true) : ∀ {xs : List Ent} {kvs : List (D × D)}, Paired (EntOk K F) xs kvs →
    (∀ d, lookD kvs k = some d → ∃ q v, atKey xs (nk k) = some q ∧ RelV v q.2 ∧ Dp K F v d) ∧ (lookD kvs k = none → atKey xs (nk k) = none)
  | _, _, .nil => ⟨fun d h => by simp [lookD] at h, fun _ => rfl⟩
  | (k1, b1, u1) :: xs, (d1, e1) :: kvs, .cons r t => by
    obtain ⟨h1, h2, h3, v, hv, h4⟩ := r
    have e := keyEq_tk h1 hk
    have ih := en_look hk t
    have h2' : nk d1 = k1 := h2
    by_cases hc : k1 = nk k
    · have ec : keyEq d1 k = true := by rw [e, h2']; exact decide_eq_true hc
      have l1 : lookD ((d1, e1) :: kvs) k = some e1 := by simp [lookD, List.find?_cons, ec]
      have a1 : atKey ((k1, b1, u1) :: xs) (nk k) = some (b1, u1) := by simp [atKey, hc]
      refine ⟨fun d h => ?_, fun h => ?_⟩
      · rw [l1] at h; cases h; exact ⟨_, v, a1, hv, h4⟩
      · rw [l1] at h; cases h
    · have ec : keyEq d1 k = false := by rw [e, h2']; exact decide_eq_false hc
      have l1 : lookD ((d1, e1) :: kvs) k = lookD kvs k := by simp [lookD, List.find?_cons, ec]
      have a1 : atKey ((k1, b1, u1) :: xs) (nk k) = atKey xs (nk k) := by simp [atKey, List.find?_cons, hc]
      rw [l1, a1]
      exact ih
theorem en_any {K : PySem.W.Frag} {F : Hp} {k : D} (hk : isTK k = true) : ∀ {xs : List Ent} {kvs : List (D × D)}, Paired (EntOk K F) xs kvs → (atKey xs (nk k)).isSome = (kvs.any fun e => keyEq e.1 k)
  | _, _, .nil => rfl
  | (k1, b1, u1) :: xs, (d1, e1) :: kvs, .cons r t => by
    obtain ⟨h1, h2, _⟩ := r
    have e := keyEq_tk h1 hk
    have h2' : nk d1 = k1 := h2
    have ih := en_any hk t
    rw [List.any_cons, ← ih]
    show _ = (keyEq d1 k || _)
    rw [e, h2']
    by_cases hc : k1 = nk k <;> simp [atKey, List.find?_cons, hc]
theorem en_map {K : PySem.W.Frag} {F : Hp} {k d : D} {v : V} {u : Value} (hk : isTK k = true) (hr : RelV v u) (hv : Dp K F v d) : ∀ {xs : List Ent} {kvs : List (D × D)}, Paired (EntOk K F) xs kvs →
    Paired (EntOk K F) (xs.map (putAt (nk k) u)) (kvs.map fun e => if keyEq e.1 k = true then (e.1, d) else e)
  | _, _, .nil => .nil
  | (k1, b1, u1) :: xs, (d1, e1) :: kvs, .cons r t => by
    obtain ⟨h1, h2, h3, h4⟩ := r
    have e := keyEq_tk h1 hk
    have h2' : nk d1 = k1 := h2
    refine .cons ?_ (en_map hk hr hv t)
    show EntOk K F (if k1 = nk k then (k1, b1, u) else (k1, b1, u1)) (if keyEq d1 k = true then (d1, d) else (d1, e1))
    by_cases hc : k1 = nk k
    · rw [if_pos hc, if_pos (by rw [e, h2']; exact decide_eq_true hc)]
      exact ⟨h1, h2, h3, v, hr, hv⟩
    · rw [if_neg hc, if_neg (by rw [e, h2']; exact fun z => hc (of_decide_eq_true z))]
      exact ⟨h1, h2, h3, h4⟩
theorem en_put {K : PySem.W.Frag} {F : Hp} {k d : D} {v : V} {u : Value} {b : Addr} {xs : List Ent} {kvs : List (D × D)} (hk : isTK k = true) (hb : Dp K F (.ref b) k) (hr : RelV v u) (hv : Dp K F v d) (h : Paired (EntOk K F) xs kvs) :
    Paired (EntOk K F) (storedH xs (nk k) b u) (putD kvs k d) := by
  unfold storedH putD
  rw [en_any hk h]
  split
  · exact en_map hk hr hv h
  · exact paired_app h (.cons ⟨hk, rfl, hb, v, hr, hv⟩ .nil)
theorem putD_ne (kvs : List (D × D)) (k d : D) : putD kvs k d ≠ [] := by
  unfold putD
  split
  · rename_i h
    cases kvs with
    | nil => simp at h
    | cons _ _ => simp
  · simp
theorem putD_len (kvs : List (D × D)) (k d : D) : (putD kvs k d).length ≤ kvs.length + 1 := by
  unfold putD
  split <;> simp
theorem storedH_nodup {xs : List Ent} {k : NestedKey} {b : Addr} {u : Value} (h : (xs.map (·.1)).Nodup) : ((storedH xs k b u).map (·.1)).Nodup := by
  unfold storedH
  split
  · rw [keys_map_putAt]; exact h
  · rename_i hn
    have hn' : atKey xs k = none := by simpa using hn
    rw [List.map_append, List.nodup_append]
    refine ⟨h, by simp, ?_⟩
    intro a ha c hc e
    simp at hc
    subst hc
    subst e
    obtain ⟨x, hx, hk⟩ := List.mem_map.mp ha
    unfold atKey at hn'
    rw [Option.map_eq_none_iff, List.find?_eq_none] at hn'
    exact hn' x hx (by simpa using hk)

/-! ### a dict of either kind -/
theorem keyOk_simple {F : Hp} {K : PySem.W.Frag} {ks : List (Key × V)} {kvs : List (D × D)} {k : D} (hx : Paired (KvOk K F) ks kvs) (h : keyOk kvs k = true) : isKey k = true ∨ (ks = [] ∧ kvs = [] ∧ isTK k = true) := by
  unfold keyOk at h
  rw [Bool.or_eq_true, Bool.and_eq_true, Bool.and_eq_true] at h
  rcases h with h | h
  · exact .inl h.1
  · cases hx with
    | nil => exact .inr ⟨rfl, rfl, h.1⟩
    | @cons x y _ _ r _ =>
      have h2 : isTK y.1 = true := h.2
      have := tk_nokey h2
      rw [(key_dp r.1).1] at this
      cases this
theorem keyOk_tk {F H : Hp} {K : PySem.W.Frag} {p : Addr} {kvs : List (D × D)} {xs : List Ent} {o : Obj} {ep : Nat} {k : D} (hx : KeyAt K F H p kvs xs o ep) (h : keyOk kvs k = true) : isTK k = true := by
  unfold keyOk at h
  rw [Bool.or_eq_true, Bool.and_eq_true, Bool.and_eq_true] at h
  rcases h with h | h
  · have he := hx.ents
    cases he with
    | nil => exact absurd rfl hx.ne
    | cons r _ =>
      have h1 := tk_nokey r.1
      have h2 : isKey _ = true := h.2
      rw [h1] at h2
      cases h2
  · exact h.1
theorem dp_tk {K : PySem.W.Frag} {F : Hp} {v : V} {d : D} (h : Dp K F v d) (hk : isTK d = true) : ∃ b, v = .ref b := by
  obtain ⟨⟨ds, rfl⟩, _⟩ := tk_parts hk
  cases h with
  | tup _ _ => exact ⟨_, rfl⟩
variable {A : Around} {E : Value → Shared → Prop} {F : Hp} {p : Addr} {kvs : List (D × D)} {k : D} {y : V} {u : Value}
theorem od_get {Q : Value → Shared → Prop} (hu : A.units + 65 < cLine) (I : Inv X pins σ H s) (T : ∀ a o, F a = some o → H a = some o) (h : OwnAt X.K F H p (.dict kvs)) (hk : keyOk kvs k = true) (hy : Dp X.K H y k) (ry : RelV y u) {d : D} (hl : lookD kvs k = some d)
    (q : ∀ v w' s', Inv X pins σ H s' → RelV v w' → Dp X.K F v d → Q w' s') : wpAny (model X.prog X.w) A (getItem (.ref p) u) Q E s := by
  rcases h with ⟨ks, e, r⟩ | ⟨xs, o, ep, r⟩
  · rcases keyOk_simple r hk with hs | ⟨rfl, rfl, _⟩
    · obtain ⟨v, h1, h2⟩ := (kv_look hs r).1 d hl
      have g := DGet.k (k := asKey k) e
      rw [h1] at g
      rw [dp_key hy hs] at ry
      exact d_getItem (by omega) I g ry fun w' s' I' rw' => q v w' s' I' rw' h2
    · simp [lookD] at hl
  · have hs := keyOk_tk r hk
    obtain ⟨b, rfl⟩ := dp_tk hy hs
    cases (show u = Value.ref b from ry)
    obtain ⟨qq, v, h1, h2, h3⟩ := (en_look hs r.ents).1 d hl
    exact wpAny_getItem_heap (show A.units + 1 + 8 < cLine by omega) (tk_is I hs hy) (ka_dict I T r) h1 (q v qq.2 _ (I.tok _) h2 h3)
theorem od_in {Q : Value → Shared → Prop} (hu : A.units + 65 < cLine) (I : Inv X pins σ H s) (T : ∀ a o, F a = some o → H a = some o) (h : OwnAt X.K F H p (.dict kvs)) (hk : keyOk kvs k = true) (hy : Dp X.K H y k) (ry : RelV y u)
    (q : ∀ s', Inv X pins σ H s' → Q (.bool (lookD kvs k).isSome) s') : wpAny (model X.prog X.w) A (compareOp .In u (.ref p)) Q E s := by
  rcases h with ⟨ks, e, r⟩ | ⟨xs, o, ep, r⟩
  · rcases keyOk_simple r hk with hs | ⟨rfl, rfl, hs⟩
    · have g := DGet.k (k := asKey k) e
      rw [dp_key hy hs] at ry
      refine d_in (by omega) I g ry fun s' I' => ?_
      have e : (valV ks (asKey k)).isSome = (lookD kvs k).isSome := by
        cases hl : lookD kvs k with
        | none => rw [(kv_look hs r).2 hl]; rfl
        | some d => obtain ⟨v, h1, _⟩ := (kv_look hs r).1 d hl; rw [h1]; rfl
      rw [e]
      exact q s' I'
    · obtain ⟨hd, dd⟩ := dk_nil I e
      obtain ⟨b, rfl⟩ := dp_tk hy hs
      cases (show u = Value.ref b from ry)
      exact wpAny_in_heap (show A.units + 1 + 8 < cLine by omega) (tk_is I hs hy) hd dd (q _ (I.tok _))
  · have hs := keyOk_tk r hk
    obtain ⟨b, rfl⟩ := dp_tk hy hs
    cases (show u = Value.ref b from ry)
    refine wpAny_in_heap (show A.units + 1 + 8 < cLine by omega) (tk_is I hs hy) r.mods (ka_dict I T r) ?_
    have e : (atKey xs (nk k)).isSome = (lookD kvs k).isSome := by
      cases hl : lookD kvs k with
      | none => rw [(en_look hs r.ents).2 hl]; rfl
      | some d => obtain ⟨qq, v, h1, _⟩ := (en_look hs r.ents).1 d hl; rw [h1]; rfl
    rw [e]
    exact q _ (I.tok _)
theorem od_notIn {Q : Value → Shared → Prop} (hu : A.units + 65 < cLine) (I : Inv X pins σ H s) (T : ∀ a o, F a = some o → H a = some o) (h : OwnAt X.K F H p (.dict kvs)) (hk : keyOk kvs k = true) (hy : Dp X.K H y k) (ry : RelV y u)
    (q : ∀ s', Inv X pins σ H s' → Q (.bool (!(lookD kvs k).isSome)) s') : wpAny (model X.prog X.w) A (compareOp .NotIn u (.ref p)) Q E s := by
  rcases h with ⟨ks, e, r⟩ | ⟨xs, o, ep, r⟩
  · rcases keyOk_simple r hk with hs | ⟨rfl, rfl, hs⟩
    · have g := DGet.k (k := asKey k) e
      rw [dp_key hy hs] at ry
      refine d_notIn (by omega) I g ry fun s' I' => ?_
      have e : (valV ks (asKey k)).isSome = (lookD kvs k).isSome := by
        cases hl : lookD kvs k with
        | none => rw [(kv_look hs r).2 hl]; rfl
        | some d => obtain ⟨v, h1, _⟩ := (kv_look hs r).1 d hl; rw [h1]; rfl
      rw [e]
      exact q s' I'
    · obtain ⟨hd, dd⟩ := dk_nil I e
      obtain ⟨b, rfl⟩ := dp_tk hy hs
      cases (show u = Value.ref b from ry)
      exact wpAny_notIn_heap (show A.units + 1 + 8 < cLine by omega) (tk_is I hs hy) hd dd (q _ (I.tok _))
  · have hs := keyOk_tk r hk
    obtain ⟨b, rfl⟩ := dp_tk hy hs
    cases (show u = Value.ref b from ry)
    refine wpAny_notIn_heap (show A.units + 1 + 8 < cLine by omega) (tk_is I hs hy) r.mods (ka_dict I T r) ?_
    have e : (atKey xs (nk k)).isSome = (lookD kvs k).isSome := by
      cases hl : lookD kvs k with
      | none => rw [(en_look hs r.ents).2 hl]; rfl
      | some d => obtain ⟨qq, v, h1, _⟩ := (en_look hs r.ents).1 d hl; rw [h1]; rfl
    rw [e]
    exact q _ (I.tok _)
/-- d.get(k) -/
theorem od_get1 {Q : Value → Shared → Prop} (hu : A.units + 65 < cLine) (I : Inv X pins σ H s) (T : ∀ a o, F a = some o → H a = some o) (h : OwnAt X.K F H p (.dict kvs)) (hk : keyOk kvs k = true) (hy : Dp X.K H y k) (ry : RelV y u)
    (q : ∀ v w' s', Inv X pins σ H s' → RelV v w' → Dp X.K F v ((lookD kvs k).getD .none) → Q w' s') : wpAny (model X.prog X.w) A (call (.builtin "dict.get") [.ref p, u]) Q E s := by
  rcases h with ⟨ks, e, r⟩ | ⟨xs, o, ep, r⟩
  · rcases keyOk_simple r hk with hs | ⟨rfl, rfl, hs⟩
    · have g := DGet.k (k := asKey k) e
      rw [dp_key hy hs] at ry
      refine d_get1 (by omega) I g ry fun w' s' I' rw' => ?_
      cases hl : lookD kvs k with
      | none =>
        rw [(kv_look hs r).2 hl] at rw'
        rw [hl] at q
        exact q _ w' s' I' rw' .non
      | some d =>
        obtain ⟨v, h1, h2⟩ := (kv_look hs r).1 d hl
        rw [h1] at rw'
        rw [hl] at q
        exact q v w' s' I' rw' h2
    · obtain ⟨hd, dd⟩ := dk_nil I e
      obtain ⟨b, rfl⟩ := dp_tk hy hs
      cases (show u = Value.ref b from ry)
      refine call_meetsIn PySem.F.slot_dict_get dd.typeIs PySem.F.entry_dict_get (PySem.F.args_dict_get_2 _ _) (meetsH_dict_get (nestedKind X.prog X.w) p b hd) ⟨show A.units + 1 + 8 < cLine by omega, _, _, tk_is I hs hy, dd, ?_⟩
      exact q .non _ _ (I.tok _) rfl .non
  · have hs := keyOk_tk r hk
    obtain ⟨b, rfl⟩ := dp_tk hy hs
    cases (show u = Value.ref b from ry)
    have dd := ka_dict I T r
    refine call_meetsIn PySem.F.slot_dict_get dd.typeIs PySem.F.entry_dict_get (PySem.F.args_dict_get_2 _ _) (meetsH_dict_get (nestedKind X.prog X.w) p b r.mods) ⟨show A.units + 1 + 8 < cLine by omega, _, _, tk_is I hs hy, dd, ?_⟩
    cases hl : lookD kvs k with
    | none =>
      rw [(en_look hs r.ents).2 hl]
      rw [hl] at q
      exact q .non _ _ (I.tok _) rfl .non
    | some d =>
      obtain ⟨qq, v, h1, h2, h3⟩ := (en_look hs r.ents).1 d hl
      rw [h1]
      rw [hl] at q
      exact q v _ _ (I.tok _) h2 h3
/-- d.get(k, x) -/
theorem od_get2 {Q : Value → Shared → Prop} (hu : A.units + 65 < cLine) (I : Inv X pins σ H s) (T : ∀ a o, F a = some o → H a = some o) (h : OwnAt X.K F H p (.dict kvs)) (hk : keyOk kvs k = true) (hy : Dp X.K H y k) (ry : RelV y u) {z : V} {x : Value} {dz : D} (rz : RelV z x) (hz : Dp X.K F z dz)
    (q : ∀ v w' s', Inv X pins σ H s' → RelV v w' → Dp X.K F v ((lookD kvs k).getD dz) → Q w' s') : wpAny (model X.prog X.w) A (call (.builtin "dict.get") [.ref p, u, x]) Q E s := by
  rcases h with ⟨ks, e, r⟩ | ⟨xs, o, ep, r⟩
  · rcases keyOk_simple r hk with hs | ⟨rfl, rfl, hs⟩
    · have g := DGet.k (k := asKey k) e
      rw [dp_key hy hs] at ry
      refine d_get2 (by omega) I g ry rz fun w' s' I' rw' => ?_
      cases hl : lookD kvs k with
      | none =>
        rw [(kv_look hs r).2 hl] at rw'
        rw [hl] at q
        exact q _ w' s' I' rw' hz
      | some d =>
        obtain ⟨v, h1, h2⟩ := (kv_look hs r).1 d hl
        rw [h1] at rw'
        rw [hl] at q
        exact q v w' s' I' rw' h2
    · obtain ⟨hd, dd⟩ := dk_nil I e
      obtain ⟨b, rfl⟩ := dp_tk hy hs
      cases (show u = Value.ref b from ry)
      refine call_meetsIn PySem.F.slot_dict_get dd.typeIs PySem.F.entry_dict_get (PySem.F.args_dict_get_3 _ _ _) (meetsH_dict_get_default (nestedKind X.prog X.w) p b hd x) ⟨show A.units + 1 + 8 < cLine by omega, _, _, tk_is I hs hy, dd, ?_⟩
      exact q z _ _ (I.tok _) rz hz
  · have hs := keyOk_tk r hk
    obtain ⟨b, rfl⟩ := dp_tk hy hs
    cases (show u = Value.ref b from ry)
    have dd := ka_dict I T r
    refine call_meetsIn PySem.F.slot_dict_get dd.typeIs PySem.F.entry_dict_get (PySem.F.args_dict_get_3 _ _ _) (meetsH_dict_get_default (nestedKind X.prog X.w) p b r.mods x) ⟨show A.units + 1 + 8 < cLine by omega, _, _, tk_is I hs hy, dd, ?_⟩
    cases hl : lookD kvs k with
    | none =>
      rw [(en_look hs r.ents).2 hl]
      rw [hl] at q
      exact q z _ _ (I.tok _) rz hz
    | some d =>
      obtain ⟨qq, v, h1, h2, h3⟩ := (en_look hs r.ents).1 d hl
      rw [h1]
      rw [hl] at q
      exact q v _ _ (I.tok _) h2 h3
/-- the object behind a store -/
theorem ka_stored {h' : Heap} {xs : List Ent} {kvs' : List (D × D)} (hne : kvs' ≠ []) (hm : (p == sysModules) = false) (dd : h'.DictOfH (nestedKind X.prog X.w) p xs) (he : Paired (EntOk X.K F) xs kvs') :
    ∃ o, h'.get? p = some o ∧ ∀ H', H' p = some (XO p o) → OwnAt X.K F H' p (.dict kvs') := by
  obtain ⟨o, es, ep, h1, h2, h3, h4, _, h6⟩ := dd
  refine ⟨o, h1, fun H' e => .inr ⟨xs, o, ep, hne, hm, e, h2, ?_, h6, he⟩⟩
  rw [h3, ← ents_of (P := X.prog) (w := X.w) he, ← h4]
/-- d[k] = v (by a statement) -/
theorem od_put {Q : Unit → Shared → Prop} (hu : A.units + 65 < cLine) (I : Inv X pins σ H s) (T : ∀ a o, F a = some o → H a = some o) (h : OwnAt X.K F H p (.dict kvs)) (hk : keyOk kvs k = true) (hy : Dp X.K F y k) (ry : RelV y u) (hl : kvs.length < 1000000) {z : V} {x : Value} {dz : D} (rz : RelV z x) (hz : Dp X.K F z dz)
    (q : ∀ s' o, Inv X pins σ (upd H p o) s' → OwnAt X.K F (upd H p o) p (.dict (putD kvs k dz)) → Q () s') : wpAny (model X.prog X.w) A (setItem (.ref p) u x) Q E s := by
  have tk : ∀ {xs : List Ent} (hm : (p == sysModules) = false) (mu : Mut (H p)) (hs : isTK k = true) (dd : s.heap.DictOfH (nestedKind X.prog X.w) p xs) (he : Paired (EntOk X.K F) xs kvs), wpAny (model X.prog X.w) A (setItem (.ref p) u x) Q E s := fun {xs} hm mu hs dd he => by
    obtain ⟨b, rfl⟩ := dp_tk hy hs
    cases (show u = Value.ref b from ry)
    have hlx : xs.length ≤ sizeLine := by rw [he.length]; exact mil (Nat.le_of_lt hl)
    refine wpAny_setItem_heap (hsz := hlx) (show A.units + 1 + 8 < cLine by omega) (tk_is I hs (dp_up T _ _ hy)) dd fun h' dd' hs' => ?_
    obtain ⟨o, ho, mk⟩ := ka_stored (X := X) (putD_ne kvs k dz) hm dd' (en_put hs hy rz hz he)
    exact q _ (XO p o) (d_write I mu hs' ⟨o, ho⟩ (xo_new ho)) (mk _ upd_same)
  rcases h with ⟨ks, e, r⟩ | ⟨xs, o, ep, r⟩
  · rcases keyOk_simple r hk with hs | ⟨rfl, rfl, hs⟩
    · rw [dp_key hy hs] at ry
      have hlk : ks.length < sizeLine := by rw [r.length]; exact mil_lt (Nat.le_of_lt hl)
      exact d_setItem (by omega) I (DPut.k e hlk) ry rz fun s' I' => q s' _ I' (.inl ⟨_, upd_same, kv_put hs hz r⟩)
    · obtain ⟨hd, dd⟩ := dk_nil I e
      exact tk hd (by rw [e]; exact True.intro) hs dd .nil
  · exact tk r.mods (by rw [r.at']; exact True.intro) (keyOk_tk r hk) (ka_dict I T r) r.ents
/-- d[k] = v (by a comprehension) -/
theorem od_set {Q : Unit → Shared → Prop} (hu : A.units + 65 < cLine) (I : Inv X pins σ H s) (T : ∀ a o, F a = some o → H a = some o) (h : OwnAt X.K F H p (.dict kvs)) (hk : keyOk kvs k = true) (hy : Dp X.K F y k) (ry : RelV y u) (hl : kvs.length < 1000000) {z : V} {x : Value} {dz : D} (rz : RelV z x) (hz : Dp X.K F z dz)
    (hA : A = X.A) (q : ∀ s' o, Inv X pins σ (upd H p o) s' → OwnAt X.K F (upd H p o) p (.dict (putD kvs k dz)) → Q () s') : wpAny (model X.prog X.w) A (dictSet p u x) Q E s := by
  have tk : ∀ {xs : List Ent} (hm : (p == sysModules) = false) (mu : Mut (H p)) (hs : isTK k = true) (dd : s.heap.DictOfH (nestedKind X.prog X.w) p xs) (he : Paired (EntOk X.K F) xs kvs), wpAny (model X.prog X.w) A (dictSet p u x) Q E s := fun {xs} hm mu hs dd he => by
    obtain ⟨b, rfl⟩ := dp_tk hy hs
    cases (show u = Value.ref b from ry)
    have hlx : xs.length ≤ sizeLine := by rw [he.length]; exact mil (Nat.le_of_lt hl)
    refine wpAny_dictSet_heap (hsz := hlx) (show A.units + 8 < cLine by omega) (tk_is I hs (dp_up T _ _ hy)) dd fun h' dd' hs' => ?_
    obtain ⟨o, ho, mk⟩ := ka_stored (X := X) (putD_ne kvs k dz) hm dd' (en_put hs hy rz hz he)
    exact q _ (XO p o) (d_write I mu hs' ⟨o, ho⟩ (xo_new ho)) (mk _ upd_same)
  rcases h with ⟨ks, e, r⟩ | ⟨xs, o, ep, r⟩
  · rcases keyOk_simple r hk with hs | ⟨rfl, rfl, hs⟩
    · rw [dp_key hy hs] at ry
      subst hA
      have hlk : ks.length ≤ sizeLine := by rw [r.length]; exact mil (Nat.le_of_lt hl)
      have hlk2 : ks.length < sizeLine := by rw [r.length]; exact mil_lt (Nat.le_of_lt hl)
      obtain ⟨z1, hd, vs, rel, dd⟩ := dk_of I.hok e
      have hzv : vs.length ≤ sizeLine := by rw [← rel.length]; exact z1
      have hl' : (putK ks (asKey k) z).length ≤ sizeLine := by have := length_putK ks (asKey k) z; omega
      refine wpAny_dictSet_pairs (hsz := hzv) (kV_is ry) dd fun h' dd' hs' => ?_
      have he : ∃ q, h'.get? p = some q := let ⟨q, _, _, hq, _⟩ := dd'; ⟨q, hq⟩
      exact q _ _ (d_write I (by rw [e]; exact True.intro) hs' he (dk_new hl' hd (rel.put (asKey k) rz) dd')) (.inl ⟨_, upd_same, kv_put hs hz r⟩)
    · obtain ⟨hd, dd⟩ := dk_nil I e
      exact tk hd (by rw [e]; exact True.intro) hs dd .nil
  · exact tk r.mods (by rw [r.at']; exact True.intro) (keyOk_tk r hk) (ka_dict I T r) r.ents
end
end Fs

set_option Elab.async false
set_option linter.all false
set_option maxRecDepth 100000
set_option maxHeartbeats 2000000
set_option autoImplicit false
namespace Fs
open PySem PySem.Spec PyProof.Rows L2

/-! ### {k: v for .. in .. if ..}, keys of either kind -/
/-- the pair of a turn may be put into the dict at Dd -/
def PutOk (K : PySem.W.Frag) (Dd : Addr) (y z : V) (H : Hp) (Nx : Hp → Prop) : Prop :=
  ∃ dr F kvs k dz, Stt dr F H ∧ OwnAt K F H Dd (.dict kvs) ∧ keyOk kvs k = true ∧ kvs.length < 1000000 ∧ Dp K F y k ∧ Dp K F z dz ∧ ∀ o, OwnAt K F (upd H Dd o) Dd (.dict (putD kvs k dz)) → Nx (upd H Dd o)
/-- one turn -/
def tTurn (K : PySem.W.Frag) (g : TG) (tt : TT) (tk tv : TE) (vs : List Nat) (σ : L2.St) (Dd : Addr) (x : V) (H : Hp) (Nx : Hp → Prop) : Prop :=
  g x (L2.wipe σ vs) H fun σ2 H2 => L2.wipe σ2 vs = L2.wipe σ vs ∧ tt σ2 H2 fun b H3 => match b with
    | true => tk σ2 H3 fun y H4 => tv σ2 H4 fun z H5 => PutOk K Dd y z H5 Nx
    | false => Nx H3
def tDD (K : PySem.W.Frag) (wi : TI) (g : TG) (tt : TT) (tk tv : TE) (vs : List Nat) : TE := fun σ H Q => wi σ H fun J H1 => ∀ Dd, H1 Dd = none →
  ∃ W : Nat → Nat → Hp → Prop, (∃ m, W 0 m (upd H1 Dd (.dK []))) ∧ ∀ i m H2, W i m H2 →
    (J.stop i H2 ∧ Q (.ref Dd) H2) ∨ (J.go i H2 ∧ ∃ Nx : Hp → Prop, (∀ H3, Nx H3 → ∃ m', m' < m ∧ W (i + 1) m' H3) ∧ ∀ x H3, J.yld i H2 x H3 → tTurn K g tt tk tv vs σ Dd x H3 Nx)
section
variable {X : Cx} {kx vx tg iter : Expr} {ifs : List Expr} {scope : Scope} {own : List (Str × Nat)} {pos : Pos} {wi : TI} {g : TG} {tt : TT} {tk tv : TE}
abbrev BlkAll (X : Cx) (scope : Scope) (P : Cx → Prop) : Prop := ∀ (s : Shared) (H : Hp) (C : Addr) (cl : List (Str × Addr)) (fp : List Addr), P (X.blk s H scope (compEnvC scope cl C X.env) fp)
theorem pe_dd (hu : X.A.units + 65 < cLine) (hc : X.calm = true) (hN : X.N.Nodup) (hi : PI X tg iter wi) (ok : BlkOk X.N X.env.scope scope own)
    (hg : BlkAll X scope fun Y => PG Y tg g) (ht : BlkAll X scope fun Y => PTs Y ifs tt) (hk : BlkAll X scope fun Y => PE Y kx tk) (he : BlkAll X scope fun Y => PE Y vx tv)
    (hs : ∀ x, foldedSetIterable iter X.env x = pure x := by intro _; rfl) : PE X (.DictComp kx vx [⟨tg, iter, ifs, 0⟩] scope pos) (tDD X.K wi g tt tk tv (own.map (·.2))) := by
  refine ⟨fun pins s σ H Q I h => ?_⟩
  rw [arm_eval_DictComp]
  have cellsOk : ∀ y ∈ scope.names, y.2 = .free → ∃ c, X.env.cells.lookup y.1 = some c := fun y hy e =>
    (ok.free y hy e).elim (fun q => I.ok.has _ (.inl q)) fun q => I.ok.has _ (.inr q)
  refine wpAny_comprehension_free rfl hs (closure_ok cellsOk) ok.kind (fun y hy e => (ok.uniq y hy).trans (by rw [e])) (wpAny_mono (hi.run pins s σ H _ I h) (fun _ _ k => wpAny_mono k (fun _ sm hm => ?_) fun _ _ z => z) fun _ _ z => z)
  obtain ⟨it, ch, tn, J, Hm, rfl, Im, T, tn0, okm, q⟩ := hm
  refine wpAny_newObj_type (newEnv_comp ?_)
  have freeD : Hm sm.heap.objs.size = none := Im.hok.fresh (Nat.le_refl _)
  generalize eD : sm.heap.objs.size = Dd at freeD
  obtain ⟨W, ⟨m0, begun⟩, turn⟩ := q Dd freeD
  -- behind the new dict
  generalize eN : ({ sm with heap := sm.heap.push { cls := .type "dict", data := .dict #[] } } : Shared) = sn
  have hN' : sn.heap = sm.heap.push { cls := .type "dict", data := .dict #[] } := congrArg Shared.heap eN.symm
  have In : Inv X pins σ (upd Hm Dd (.dK [])) sn := by
    subst eN
    subst eD
    exact Im.laid (t' := sm.toks) (fun _ _ e => Heap.get?_push_of_some _ e) (Nat.le_refl _) (dk_empty sm.heap Im.big)
  have young : ∀ b ∈ ch, b < Dd := fun b hb => by
    obtain ⟨o, e, _⟩ := T.obj 0 _ tn0 b hb
    rw [← eD]
    exact Heap.lt_size e
  have okn : ∀ b ∈ ch, FpOk X pins (upd Hm Dd (.dK [])) b ∧ b < sn.heap.objs.size := fun b hb => by
    refine ⟨⟨(upd_ne (Nat.ne_of_lt (young b hb))).trans (okm b hb).1, (okm b hb).2⟩, ?_⟩
    rw [hN', Heap.size_push, eD]
    exact Nat.lt_succ_of_lt (young b hb)
  have noch : ∀ b ∈ ch, upd Hm Dd (.dK []) b = none := fun b hb => (okn b hb).1.1
  have tnN : tn 0 sn.heap := T.keep 0 _ _ tn0 fun b _ o e => by rw [hN']; exact Heap.get?_push_of_some _ e
  have Ib := block_start In ok hN okn
  have G := hg sn (upd Hm Dd (.dK [])) sn.heap.objs.size (cellsFrom (sn.heap.objs.size + 1) scope.names (cloFrom X.env.cells scope.names [])) ch
  have Tt := ht sn (upd Hm Dd (.dK [])) sn.heap.objs.size (cellsFrom (sn.heap.objs.size + 1) scope.names (cloFrom X.env.cells scope.names [])) ch
  have Kk := hk sn (upd Hm Dd (.dK [])) sn.heap.objs.size (cellsFrom (sn.heap.objs.size + 1) scope.names (cloFrom X.env.cells scope.names [])) ch
  have Ee := he sn (upd Hm Dd (.dK [])) sn.heap.objs.size (cellsFrom (sn.heap.objs.size + 1) scope.names (cloFrom X.env.cells scope.names [])) ch
  generalize eE : compEnvC scope (cellsFrom (sn.heap.objs.size + 1) scope.names (cloFrom X.env.cells scope.names [])) sn.heap.objs.size X.env = ev at Ib G Tt Kk Ee
  have locE : ev.locals = sn.heap.objs.size := congrArg Env.locals eE.symm
  show codeAny _ _ (.compStart (.DictComp kx vx [⟨tg, iter, ifs, 0⟩] scope pos) 0 (.ref it) (.ref Dd) (compEnvC scope (cellsFrom (sn.heap.objs.size + 1) scope.names (cloFrom X.env.cells scope.names [])) sn.heap.objs.size X.env)) (compPost _ _ _ _ _ _ sn.heap.objs.size) { sn with heap := pushCells (sn.heap.push { cls := .type "dict", data := .dict #[] }) scope.names }
  rw [eE]
  generalize eH : upd Hm Dd (.dK []) = Hn at In Ib G Tt Kk Ee begun noch okn
  generalize eB : ({ sn with heap := pushCells (sn.heap.push { cls := .type "dict", data := .dict #[] }) scope.names } : Shared) = sb at Ib ⊢
  have tnB : tn 0 sb.heap := T.keep 0 _ _ tnN fun b _ o e => by rw [← eB]; exact pushCells_keeps _ _ _ _ (Heap.get?_push_of_some _ e)
  let Y : Cx := X.blk sn Hn scope ev ch
  have fpY : ∀ {τ : L2.St} {Hx : Hp} {sx : Shared}, Inv Y [] τ Hx sx → (∀ b ∈ ch, Hx b = none) → ∀ b ∈ ch, FpOk Y [] Hx b := fun Ix nx b hb =>
    ⟨nx b hb, (Ix.ok.exf b hb).1, Ix.ok.exfs b hb, .inl hb, fun x c e => (Ix.ok.exf b hb).2 x c e, fun p hp => by
      have z : p ∈ ([] : List (Addr × Obj)) ++ [] := hp
      simp at z⟩
  suffices L : codeAny (model X.prog X.w) X.A (.compLoop (.DictComp kx vx [⟨tg, iter, ifs, 0⟩] scope pos) 0 (.ref it) (.ref Dd) ev) (compPost (model X.prog X.w) X.A X.xe none (fun v s1 => ∃ x H', Inv X pins σ H' s1 ∧ RelV x v ∧ Q x H') (.ref Dd) sn.heap.objs.size) sb from
    codeAny_compStart_dict L (T.self X.A 0 _ _ _ tnB L)
  let St : Nat → Shared → Prop := fun m sx => ∃ i Hx, Inv Y [] (L2.wipe σ (own.map (·.2))) Hx sx ∧ tn i sx.heap ∧ (∀ b ∈ ch, Hx b = none) ∧ W i m Hx
  refine compLoop_anyD St (fun m sx ⟨i, Hx, Ix, tnx, nx, w⟩ => ?_) m0 ⟨0, Hn, Ib, tnB, noch, begun⟩
  rcases turn i m Hx w with ⟨stop, done⟩ | ⟨go, Nx, next, step⟩
  · -- no item is left
    refine thnF (T.done Y rfl rfl rfl hc i [] sx _ Hx (fun _ _ => False) Ix (fpY Ix nx) tnx stop) fun r se ⟨er, Ie⟩ => ?_
    subst er
    have Iout : Inv X pins σ Hx se := In.call' (ch := ch) Ie.os Ie.base Ie.hok Ie.bare fun b hb => ⟨(okn b hb).1.2.2.2.1, (okn b hb).1.2.1, (okn b hb).1.2.2.2.2.1, (okn b hb).1.2.2.2.2.2⟩
    have freeL : Hx sn.heap.objs.size = none := locE ▸ (show Hx ev.locals = none from Ie.free)
    obtain ⟨ml, hl, _⟩ := Ie.loc
    have hl : se.heap.Ns ev.locals ml := hl
    rw [locE] at hl
    obtain ⟨f0, f1, _, f3, f4, f5⟩ := In.fpOk (Nat.le_refl _) freeL
    exact ⟨ml, hl, fun hh sb' => ⟨.ref Dd, Hx, Iout.turned (t' := se.toks) (fun b o hb e => (sb'.2 b hb).trans e) f0 f1 f3 f4 f5, rfl, done⟩⟩
  · -- the next item
    refine thnF (T.item Y rfl rfl rfl hc i [] sx _ Hx (fun _ _ => False) Ix (fpY Ix nx) tnx go) fun r s1 ⟨u, er, h1⟩ => ?_
    subst er
    refine thnF h1 fun _ s2 ⟨x, H2, I2, rx, yl, tn2, n2⟩ => ?_
    have Ip := I2.pinned (fpY I2 n2) (T.obj _ _ tn2)
    have back : ∀ {τ : L2.St} {s' : Shared} {H' : Hp}, L2.wipe τ (own.map (·.2)) = L2.wipe σ (own.map (·.2)) → Inv Y ([] ++ pinsAt ch s2.heap) τ H' s' → Nx H' → ∃ m', m' < m ∧ St m' s' := fun {τ s' H'} ew I' nxt => by
      obtain ⟨m', lt, w'⟩ := next H' nxt
      have there : ∀ b ∈ ch, ∀ o, s2.heap.get? b = some o → s'.heap.get? b = some o ∧ H' b = none := fun b hb o e =>
        ⟨(I'.pin (b, o) (List.mem_append_right _ (List.mem_append_right _ (mem_pinsAt hb e)))).1, (I'.pin (b, o) (List.mem_append_right _ (List.mem_append_right _ (mem_pinsAt hb e)))).2.1⟩
      refine ⟨m', lt, i + 1, H', (I'.unpinned (pins := [])).weak ?_ (fun j v e => ?_), T.keep _ _ _ tn2 fun b hb o e => (there b hb o e).1, fun b hb => ?_, w'⟩
      · rw [← ew, wipe_length]
      · rw [← ew] at e
        exact (wipe_some e).1
      · obtain ⟨o, e, _⟩ := T.obj _ _ tn2 b hb
        exact (there b hb o e).2
    refine thnF (G.run _ s2 _ H2 x u _ Ip rx (step x H2 yl)) fun _ s3 ⟨τ, H3, I3, ew, q3⟩ => ?_
    refine thnF (Tt.run _ s3 τ H3 _ I3 q3) fun b s4 ⟨H4, I4, q4⟩ => ?_
    cases b with
    | false =>
      rw [if_neg (by decide)]
      exact back ew I4 q4
    | true =>
      rw [if_pos rfl]
      refine thnF (Kk.run _ s4 τ H4 _ I4 q4) fun kk s5 ⟨y, H5, I5, ry, q5⟩ => thnF (Ee.run _ s5 τ H5 _ I5 q5) fun vv s6 ⟨z, H6, I6, rz, q6⟩ => ?_
      obtain ⟨dr, F, kvs, k, dz, T6, o6, hk6, hl6, hy6, hz6, nx6⟩ := q6
      exact od_set (X := Y) hu I6 T6.sub o6 hk6 hy6 ry hl6 rz hz6 rfl fun s7 o I7 o7 => back ew I7 (nx6 o o7)
end
end Fs

set_option Elab.async false
set_option linter.all false
set_option maxRecDepth 100000
set_option maxHeartbeats 2000000
set_option autoImplicit false
namespace Fs
open PySem PySem.Spec PyProof.Rows L2

def dcGo (g : DTg) (t : DT) (fk fv : DE) : List D → List (D × D) → Env → Cm (List (D × D))
  | [], acc, _ => .ret acc
  | d :: ds, acc, env => (g d env).bind fun e1 => (t e1).bind fun b => if b = true then (fk e1).bind fun k => (fv e1).bind fun v => if keyOk acc k = true ∧ flatD v = true then dcGo g t fk fv ds (putD acc k v) env else .bad
    else dcGo g t fk fv ds acc env
def dDc (fi : DEs) (g : DTg) (t : DT) (fk fv : DE) (vs : List Nat) : DE := fun env => (fi env).bind fun items => if items.length < 1000000 then (dcGo g t fk fv items [] (wipeE env vs)).bind fun kvs => .ret (.dict kvs) else .bad
section
variable {X : Cx} {tg e a b c o kx vx iter : Expr} {es : List Expr} {f f1 f2 f3 fk fv : DE} {fs fi : DEs} {t u : DT} {pos : Pos} {is js : List Nat} {g : DTg} {gs : DTgs} {s s1 s2 : DS}
theorem dc_red {K : PySem.W.Frag} {vs0 : List Nat} (hsub : ∀ i ∈ is, i ∈ vs0) {σ : L2.St} {H : Hp} {Q : VK} (h0 : tF K (dDc fi g t fk fv vs0) σ H Q) : tDD K (tI K fi) (tG K is g) (tT K t) (tE K fk) (tE K fv) vs0 σ H Q :=
  let ⟨dr, B, F, env, T0, r, q⟩ := h0
  ⟨dr, B, F, env, T0, r, Cm.All.mono (by
    intro items k J F1 H1 S1 T1 ok1 Dd hD
    split at k
    · rename_i hlen
      have k := Cm.all_bind.mp k
      obtain ⟨S2, T2, nf⟩ := lay_own T1 hD (.dK [])
      have ndD := not_dr T1 hD
      have hD0 : H Dd = none := by
        cases z : H Dd with
        | none => rfl
        | some o => have := S1.keep Dd o ndD z; rw [hD] at this; cases this
      refine ⟨fun i m H2 => m = items.length - i ∧ i ≤ items.length ∧ ∃ F2 acc, Stt dr F2 H2 ∧ Step dr F H F2 H2 ∧ (∀ a o, F1 a = some o → F2 a = some o) ∧ F2 Dd = none ∧ OwnAt K F2 H2 Dd (.dict acc) ∧ acc.length ≤ i ∧
          (dcGo g t fk fv (items.drop i) acc (wipeE env vs0)).All (fun ys => ∀ p F' H', Step dr F H F' H' → Stt dr F' H' → H p = none → F' p = none → OwnAt K F' H' p (.dict ys) → Q (.ref p) H') ∧ Rs K dr B F2 H2 σ env,
        ⟨items.length, by simp, Nat.zero_le _, F1, [], T2, S1.trans S2 T2, fun _ _ h => h, nf, .inl ⟨[], upd_same, .nil⟩, Nat.le_refl _, k, (r.step S1).step S2⟩, ?_⟩
      rintro i m H2 ⟨rfl, hi2, F2, acc, T3, S3, up3, nf3, own3, hl3, q3, r3⟩
      by_cases hlt : i < items.length
      · have hd : items[i]? = some items[i] := by simp [hlt]
        obtain ⟨go, yl⟩ := ok1.go F2 H2 i _ up3 T3 hd
        rw [List.drop_eq_getElem_cons hlt] at q3
        refine .inr ⟨go, fun H4 => ∃ F4 acc, Stt dr F4 H4 ∧ Step dr F H F4 H4 ∧ (∀ a o, F1 a = some o → F4 a = some o) ∧ F4 Dd = none ∧ OwnAt K F4 H4 Dd (.dict acc) ∧ acc.length ≤ i + 1 ∧
          (dcGo g t fk fv (items.drop (i + 1)) acc (wipeE env vs0)).All (fun ys => ∀ p F' H', Step dr F H F' H' → Stt dr F' H' → H p = none → F' p = none → OwnAt K F' H' p (.dict ys) → Q (.ref p) H') ∧ Rs K dr B F4 H4 σ env, ?_, fun x H4 y => ?_⟩
        · rintro H4 ⟨F4, acc4, h⟩
          exact ⟨items.length - (i + 1), by omega, rfl, hlt, F4, acc4, h⟩
        · obtain ⟨F4, S4, T4, rv⟩ := yl x H4 y
          have rw4 := (r3.step S4).wipe vs0
          refine ⟨dr, B, F4, _, _, T4, rw4, rv, Cm.All.mono ?_ (Cm.all_bind.mp q3)⟩
          intro e1 k1 σ1 r1 kp
          refine ⟨wipe_keeps kp hsub, dr, B, F4, e1, T4, r1, Cm.All.mono ?_ (Cm.all_bind.mp k1)⟩
          intro bb k2 F5 H5 S5 T5
          have nf5 : F5 Dd = none := by
            obtain ⟨u, hu⟩ := own3.there
            exact S5.still (S4.still nf3 hu) (S4.keep _ _ ndD hu)
          have own5 := (own3.step S4 ndD).step S5 ndD
          have up5 : ∀ a o, F1 a = some o → F5 a = some o := fun a o h => S5.up a o (S4.up a o (up3 a o h))
          have SS5 := (S3.trans S4 T4).trans S5 T5
          cases bb with
          | false => exact ⟨F5, acc, T5, SS5, up5, nf5, own5, Nat.le_succ_of_le hl3, k2, (r3.step S4).step S5⟩
          | true =>
            refine ⟨dr, B, F5, e1, T5, r1.step S5, Cm.All.mono ?_ (Cm.all_bind.mp k2)⟩
            intro kd k3 kv F6 H6 S6 T6 rk
            refine ⟨dr, B, F6, e1, T6, (r1.step S5).step S6, Cm.All.mono ?_ (Cm.all_bind.mp k3)⟩
            intro vd k4 vv F7 H7 S7 T7 rvv
            split at k4
            · rename_i hfl
              have nf7 : F7 Dd = none := by
                obtain ⟨u, hu⟩ := own5.there
                exact S7.still (S6.still nf5 hu) (S6.keep _ _ ndD hu)
              have own7 := (own5.step S6 ndD).step S7 ndD
              refine ⟨dr, F7, acc, kd, vd, T7, own7, hfl.1, by omega, dp_up S7.up _ _ (rp_flat rk (keyOk_flat hfl.1)), rp_flat rvv hfl.2, fun o hown => ?_⟩
              have T8 : Stt dr F7 (upd H7 Dd o) := ⟨fun a u e => by rw [upd_ne (ne_of_none e nf7)]; exact T7.sub _ _ e, T7.drw.upd ndD, T7.nodr⟩
              have SS7 := (SS5.trans S6 T6).trans S7 T7
              have rr7 := (((r3.step S4).step S5).step S6).step S7
              refine ⟨F7, _, T8, ⟨SS7.up, fun a u n e => by rw [upd_ne (ne_of_none e hD0)]; exact SS7.keep a u n e, SS7.new⟩, fun a o h => S7.up a o (S6.up a o (up5 a o h)), nf7, hown, Nat.le_trans (putD_len _ _ _) (Nat.succ_le_succ hl3), k4, ?_⟩
              refine ⟨rr7.len, fun j s e => ?_, rr7.apart⟩
              obtain ⟨o, h1, h2⟩ := rr7.ok j s e
              refine ⟨o, h1, ?_⟩
              cases s with
              | no => trivial
              | val d => exact h2
              | own d =>
                obtain ⟨p, e1, b1, f1, n1, w1⟩ := h2
                refine ⟨p, e1, b1, f1, n1, w1.at (upd_ne fun z => ?_)⟩
                subst z
                obtain ⟨o3, g1, g2⟩ := r.ok j _ e
                rw [h1] at g1
                cases g1
                obtain ⟨p3, e3, _, _, _, w3⟩ := g2
                rw [e1] at e3
                cases e3
                obtain ⟨u, hu⟩ := w3.there
                rw [hD0] at hu; cases hu
            · exact k4.elim
      · have e : i = items.length := by omega
        subst e
        rw [List.drop_length] at q3
        exact .inl ⟨ok1.stop F2 H2 _ up3 T3 (Nat.le_refl _), q3 Dd F2 H2 S3 T3 hD0 nf3 own3⟩
    · exact k.elim) (Cm.all_bind.mp q)⟩
theorem f_dc {ifs : List Expr} {scope : Scope} {own : List (Str × Nat)} (hu : X.A.units + 65 < cLine) (hc : X.calm = true) (hN : X.N.Nodup) (hi : PI X tg iter (tI X.K fi)) (ok : BlkOk X.N X.env.scope scope own)
    (hg : ∀ (s : Shared) (H : Hp) (C : Addr) (cl : List (Str × Addr)) (fp : List Addr), PG (X.blk s H scope (compEnvC scope cl C X.env) fp) tg (tG X.K is g)) (ht : ∀ (s : Shared) (H : Hp) (C : Addr) (cl : List (Str × Addr)) (fp : List Addr), PTs (X.blk s H scope (compEnvC scope cl C X.env) fp) ifs (tT X.K t))
    (hk : ∀ (s : Shared) (H : Hp) (C : Addr) (cl : List (Str × Addr)) (fp : List Addr), PE (X.blk s H scope (compEnvC scope cl C X.env) fp) kx (tE X.K fk))
    (he : ∀ (s : Shared) (H : Hp) (C : Addr) (cl : List (Str × Addr)) (fp : List Addr), PE (X.blk s H scope (compEnvC scope cl C X.env) fp) vx (tE X.K fv)) (hsub : ∀ i ∈ is, i ∈ own.map (·.2)) (hs : ∀ x, foldedSetIterable iter X.env x = pure x := by intro _; rfl) :
    PE X (.DictComp kx vx [⟨tg, iter, ifs, 0⟩] scope pos) (tF X.K (dDc fi g t fk fv (own.map (·.2)))) :=
  pe_imp (pe_dd hu hc hN hi ok hg ht hk he hs) fun σ H Q h => dc_red hsub h

/-! ### operations on dicts -/
def vDGet : D → D → Cm D
  | .dict kvs, k => if keyOk kvs k = true then (match lookD kvs k with
    | some d => .ret d
    | none => .bad) else .bad
  | _, _ => .bad
def vDIn : D → D → Cm D
  | k, .dict kvs => if keyOk kvs k = true then .ret (.bool (lookD kvs k).isSome) else .bad
  | _, _ => .bad
def vDNotIn : D → D → Cm D
  | k, .dict kvs => if keyOk kvs k = true then .ret (.bool (!(lookD kvs k).isSome)) else .bad
  | _, _ => .bad
def cDGet1 : List D → Cm D
  | [.dict kvs, k] => if keyOk kvs k = true then .ret ((lookD kvs k).getD .none) else .bad
  | _ => .bad
def cDGet2 : List D → Cm D
  | [.dict kvs, k, x] => if keyOk kvs k = true ∧ flatD x = true then .ret ((lookD kvs k).getD x) else .bad
  | _ => .bad
theorem keyOk_nodrw {k : D} (h : keyOk [(.none, .none)] k = true) : False := by
  unfold keyOk at h
  rw [Bool.or_eq_true, Bool.and_eq_true, Bool.and_eq_true] at h
  rcases h with h | h
  · cases h.2
  · exact absurd h.2 (by decide)
/-- a dict that may be looked at -/
theorem bp_dict {K : PySem.W.Frag} {dr : Dr} {F H : Hp} {v : V} {kvs : List (D × D)} (T : Stt dr F H) (h : Bp K dr F H v (.dict kvs)) (n : kvs ≠ [(.none, .none)]) : ∃ p, v = .ref p ∧ OwnAt K F H p (.dict kvs) ∧ ¬ dr.has p := by
  cases h with
  | r h =>
    cases h with
    | dp z => cases z
    | drw => exact absurd rfl n
    | dct o =>
      refine ⟨_, rfl, o.mono (fun _ _ e => e) (T.sub _), fun z => ?_⟩
      obtain ⟨u, hu⟩ := o.there
      rw [T.nodr _ z] at hu
      cases hu
  | own _ nd o => exact ⟨_, rfl, o, nd⟩
theorem keyOk_ne {kvs : List (D × D)} {k : D} (h : keyOk kvs k = true) : kvs ≠ [(.none, .none)] := fun e => by subst e; exact keyOk_nodrw h
theorem od_type {pins : List (Addr × Obj)} {σ : L2.St} {F H : Hp} {s : Shared} {p : Addr} {kvs : List (D × D)} (I : Inv X pins σ H s) (hF : ∀ a o, F a = some o → H a = some o) (h : OwnAt X.K F H p (.dict kvs)) : s.TypeIs (.ref p) "dict" := by
  rcases h with ⟨ks, e, r⟩ | ⟨xs, o, ep, r⟩
  · exact dict_typeIs I (DGet.k (k := .inl 0) e)
  · exact (ka_dict I hF r).typeIs
theorem e_dgetB (hu : X.A.units + 65 < cLine) (ho : PE X o (tB X.K f1)) (hi : PE X a (tB X.K f2)) (hs : NoSl a) : PE X (.Subscript o a pos) (tE X.K (dOp vDGet f1 f2)) := by
  refine ⟨fun pins s σ H Q I h => ?_⟩
  refine subD_of PySem.F.slot_dict_getitem.lookup hs (thn (ho.run pins s σ H _ I (op_red (g := vDGet) h)) fun v s1 ⟨x, H1, I1, rx, q1⟩ => thn (hi.run pins s1 σ H1 _ I1 q1) fun iv s2 ⟨y, H2, I2, ry, q2⟩ => ?_)
  obtain ⟨dr, F, dx, dy, T, bx, b2, q⟩ := q2
  unfold vDGet at q
  split at q
  · rename_i kvs
    split at q
    · rename_i hk
      obtain ⟨p, rfl, ow, nd⟩ := bp_dict T bx (keyOk_ne hk)
      cases (show v = Value.ref p from rx)
      split at q
      · rename_i d hl
        exact ⟨od_type I2 T.sub ow, od_get hu I2 T.sub ow hk (bp_dp T b2 (keyOk_flat hk)) ry hl fun v w' s' I' rw' dd => ⟨v, H2, I', rw', q v F H2 .refl T (.dp dd)⟩⟩
      · exact q.elim
    · exact q.elim
  · exact q.elim
theorem pc_dinB (hu : X.A.units + 65 < cLine) (hi : PE X a (tB X.K f1)) (ho : PE X o (tB X.K f2)) : PC X .In a o (tE X.K (dOp vDIn f1 f2)) := by
  refine ⟨fun pins s σ H Q I h => ?_⟩
  refine thn (hi.run pins s σ H _ I (op_red (g := vDIn) h)) fun iv s1 ⟨y, H1, I1, ry, q1⟩ => thn (ho.run pins s1 σ H1 _ I1 q1) fun v s2 ⟨x, H2, I2, rx, q2⟩ => ?_
  obtain ⟨dr, F, dy, dx, T, b2, bx, q⟩ := q2
  unfold vDIn at q
  split at q
  · rename_i kvs
    split at q
    · rename_i hk
      obtain ⟨p, rfl, ow, nd⟩ := bp_dict T bx (keyOk_ne hk)
      cases (show v = Value.ref p from rx)
      exact od_in hu I2 T.sub ow hk (bp_dp T b2 (keyOk_flat hk)) ry fun s' I' => ⟨.bl _, H2, I', rfl, q _ F H2 .refl T (.dp (.bl _))⟩
    · exact q.elim
  · exact q.elim
theorem pc_dnotinB (hu : X.A.units + 65 < cLine) (hi : PE X a (tB X.K f1)) (ho : PE X o (tB X.K f2)) : PC X .NotIn a o (tE X.K (dOp vDNotIn f1 f2)) := by
  refine ⟨fun pins s σ H Q I h => ?_⟩
  refine thn (hi.run pins s σ H _ I (op_red (g := vDNotIn) h)) fun iv s1 ⟨y, H1, I1, ry, q1⟩ => thn (ho.run pins s1 σ H1 _ I1 q1) fun v s2 ⟨x, H2, I2, rx, q2⟩ => ?_
  obtain ⟨dr, F, dy, dx, T, b2, bx, q⟩ := q2
  unfold vDNotIn at q
  split at q
  · rename_i kvs
    split at q
    · rename_i hk
      obtain ⟨p, rfl, ow, nd⟩ := bp_dict T bx (keyOk_ne hk)
      cases (show v = Value.ref p from rx)
      exact od_notIn hu I2 T.sub ow hk (bp_dp T b2 (keyOk_flat hk)) ry fun s' I' => ⟨.bl _, H2, I', rfl, q _ F H2 .refl T (.dp (.bl _))⟩
    · exact q.elim
  · exact q.elim
theorem e_dinB (hu : X.A.units + 65 < cLine) (hi : PE X a (tB X.K f1)) (ho : PE X o (tB X.K f2)) (h1 : behindInMarks .In o = false := by rfl) : PE X (.Compare a [.In] [o] pos) (tE X.K (dOp vDIn f1 f2)) := pe_cmp (pc_dinB hu hi ho) h1
theorem e_dnotinB (hu : X.A.units + 65 < cLine) (hi : PE X a (tB X.K f1)) (ho : PE X o (tB X.K f2)) (h1 : behindInMarks .NotIn o = false := by rfl) : PE X (.Compare a [.NotIn] [o] pos) (tE X.K (dOp vDNotIn f1 f2)) := pe_cmp (pc_dnotinB hu hi ho) h1
theorem t_dinB (hu : X.A.units + 65 < cLine) (hi : PE X a (tB X.K f1)) (ho : PE X o (tB X.K f2)) (h1 : behindInMarks .In o = false := by rfl) : PT X (.Compare a [.In] [o] pos) (tT X.K (dTru (dOp vDIn f1 f2))) := pt_imp (pt_cmp (pc_dinB hu hi ho) h1) fun _ _ _ h => tru_red h
theorem t_dnotinB (hu : X.A.units + 65 < cLine) (hi : PE X a (tB X.K f1)) (ho : PE X o (tB X.K f2)) (h1 : behindInMarks .NotIn o = false := by rfl) : PT X (.Compare a [.NotIn] [o] pos) (tT X.K (dTru (dOp vDNotIn f1 f2))) := pt_imp (pt_cmp (pc_dnotinB hu hi ho) h1) fun _ _ _ h => tru_red h
def isDict : D → Bool
  | .dict kvs => match kvs with
    | [(.none, .none)] => false
    | _ => true
  | _ => false
theorem isDict_of {d : D} (h : isDict d = true) : ∃ kvs, d = .dict kvs ∧ kvs ≠ [(.none, .none)] := by
  cases d with
  | dict kvs => exact ⟨kvs, rfl, fun e => by subst e; cases h⟩
  | none => cases h
  | bool _ => cases h
  | int _ => cases h
  | str _ => cases h
  | list _ => cases h
  | tuple _ => cases h
theorem od_at {pins : List (Addr × Obj)} {σ : L2.St} {F H : Hp} {s : Shared} {p : Addr} {kvs : List (D × D)} (I : Inv X pins σ H s) (h : OwnAt X.K F H p (.dict kvs)) : ∀ b, Value.ref p = .ref b → ∃ ob, s.heap.get? b = some ob ∧ ob.dict = none := by
  rcases h with ⟨ks, e, r⟩ | ⟨xs, o, ep, r⟩
  · exact (isD_at I (.inl ⟨ks, .inl e⟩)).2.1
  · intro b q
    cases q
    exact ⟨o, xo_get I r.at', r.ex.2.1⟩
/-- d.get(k), d.get(k, x) -/
def dGet1 (f1 f2 : DE) : DE := fun env => (f1 env).bind fun d => if isDict d = true then (f2 env).bind fun k => cDGet1 [d, k] else .bad
def dGet2 (f1 f2 f3 : DE) : DE := fun env => (f1 env).bind fun d => if isDict d = true then (f2 env).bind fun k => (f3 env).bind fun x => cDGet2 [d, k, x] else .bad
/-- the dict of a method's call has come -/
def tRecv (K : PySem.W.Frag) (h : D → DE) (Q : VK) (σ : L2.St) (x : V) (H1 : Hp) : Prop :=
  ∃ dr B F1 env p kvs, x = .ref p ∧ Stt dr F1 H1 ∧ Rs K dr B F1 H1 σ env ∧ OwnAt K F1 H1 p (.dict kvs) ∧ ¬ dr.has p ∧ (h (.dict kvs) env).All fun d => ∀ v F' H', Step dr F1 H1 F' H' → Stt dr F' H' → Rp K dr F' v d → Q v H'
theorem recv_dict {K : PySem.W.Frag} {σ : L2.St} {H : Hp} {Q : VK} {h : D → DE} (h0 : tE K (fun env => (f1 env).bind fun d => if isDict d = true then h d env else .bad) σ H Q) : tB K f1 σ H (tRecv K h Q σ) := by
  obtain ⟨dr, B, F, env, T0, r0, q0⟩ := h0
  refine ⟨dr, B, F, env, T0, r0, Cm.All.mono (fun d k v F1 H1 S1 T1 b1 => ?_) (Cm.all_bind.mp q0)⟩
  by_cases hd : isDict d = true
  · rw [if_pos hd] at k
    obtain ⟨kvs, rfl, hne⟩ := isDict_of hd
    obtain ⟨p, rfl, ow, nd⟩ := bp_dict T1 b1 hne
    exact ⟨dr, B, F1, env, p, kvs, rfl, T1, r0.step S1, ow, nd, Cm.All.mono (fun d' k' v' F' H' S' T' r' => k' v' F' H' (S1.trans S' T') T' r') k⟩
  · rw [if_neg hd] at k
    exact k.elim
theorem e_dget1 {apos : Pos} (hu : X.A.units + 65 < cLine) (ho : PE X o (tB X.K f1)) (he : PE X a (tB X.K f2)) (m : M1 X o "get" apos a pos) : PE X (.Call (.Attribute o "get" apos) [a] [] pos) (tE X.K (dGet1 f1 f2)) := by
  refine ⟨fun pins s σ H Q I h => ?_⟩
  refine wpAny_Call_method m.base m.few m.line PySem.F.plainAttrs_dict PySem.F.slot_dict_get PySem.F.type_dict_get (thn (ho.run pins s σ H _ I (recv_dict (h := fun d env => (f2 env).bind fun k => cDGet1 [d, k]) h)) fun v s1 ⟨x, H1, I1, rx, dr, B, F1, env, p, kvs, ex, T1, R1, ow, nd, q1⟩ => ?_)
  subst ex
  cases (show v = Value.ref p from rx)
  refine ⟨od_type I1 T1.sub ow, od_at I1 ow, ?_⟩
  rw [m.trees]
  refine Calls.callWith_builtin rfl (Calls.evalArgs_plain (Calls.spliced_cons (thn (he.run pins s1 σ H1 (fun y H2 => ∃ F2 kd, Stt dr F2 H2 ∧ Step dr F1 H1 F2 H2 ∧ Bp X.K dr F2 H2 y kd ∧ (cDGet1 [.dict kvs, kd]).All fun d => ∀ v F' H', Step dr F1 H1 F' H' → Stt dr F' H' → Rp X.K dr F' v d → Q v H') I1 ?_) fun iv s2 ⟨y, H2, I2, ry, F2, kd, T2, S2, b2, q2⟩ => Calls.spliced_nil ?_)))
  · exact ⟨dr, B, F1, env, T1, R1, Cm.All.mono (fun kd k v F2 H2 S2 T2 b2 => ⟨F2, kd, T2, S2, b2, k⟩) (Cm.all_bind.mp q1)⟩
  · have q2' : (if keyOk kvs kd = true then .ret ((lookD kvs kd).getD .none) else (.bad : Cm D)).All _ := q2
    by_cases hk : keyOk kvs kd = true
    · rw [if_pos hk] at q2'
      exact od_get1 hu I2 T2.sub (ow.step S2 nd) hk (bp_dp T2 b2 (keyOk_flat hk)) ry fun v w' s' I' rw' dd => ⟨v, H2, I', rw', q2' v F2 H2 S2 T2 (.dp dd)⟩
    · rw [if_neg hk] at q2'
      exact q2'.elim
theorem e_dget2 {apos : Pos} (hu : X.A.units + 65 < cLine) (ho : PE X o (tB X.K f1)) (he : PE X a (tB X.K f2)) (hf : PE X b (tE X.K f3)) (m : M2 X o "get" apos a b pos) : PE X (.Call (.Attribute o "get" apos) [a, b] [] pos) (tE X.K (dGet2 f1 f2 f3)) := by
  refine ⟨fun pins s σ H Q I h => ?_⟩
  refine wpAny_Call_method m.base m.few m.line PySem.F.plainAttrs_dict PySem.F.slot_dict_get PySem.F.type_dict_get (thn (ho.run pins s σ H _ I (recv_dict (h := fun d env => (f2 env).bind fun k => (f3 env).bind fun x => cDGet2 [d, k, x]) h)) fun v s1 ⟨x, H1, I1, rx, dr, B, F1, env, p, kvs, ex, T1, R1, ow, nd, q1⟩ => ?_)
  subst ex
  cases (show v = Value.ref p from rx)
  refine ⟨od_type I1 T1.sub ow, od_at I1 ow, ?_⟩
  rw [m.trees]
  refine Calls.callWith_builtin rfl (Calls.evalArgs_plain (Calls.spliced_cons (thn (he.run pins s1 σ H1 (fun y H2 => ∃ F2 kd, Stt dr F2 H2 ∧ Step dr F1 H1 F2 H2 ∧ Bp X.K dr F2 H2 y kd ∧ ((f3 env).bind fun x => cDGet2 [.dict kvs, kd, x]).All fun d => ∀ v F' H', Step dr F1 H1 F' H' → Stt dr F' H' → Rp X.K dr F' v d → Q v H') I1 ?_) fun iv s2 ⟨y, H2, I2, ry, F2, kd, T2, S2, b2, q2⟩ =>
    Calls.spliced_cons (thn (hf.run pins s2 σ H2 (fun z H3 => ∃ F3 xd, Stt dr F3 H3 ∧ Step dr F2 H2 F3 H3 ∧ Rp X.K dr F3 z xd ∧ (cDGet2 [.dict kvs, kd, xd]).All fun d => ∀ v F' H', Step dr F1 H1 F' H' → Stt dr F' H' → Rp X.K dr F' v d → Q v H') I2 ?_) fun fv s3 ⟨z, H3, I3, rz, F3, xd, T3, S3, b3, q3⟩ => Calls.spliced_nil ?_))))
  · exact ⟨dr, B, F1, env, T1, R1, Cm.All.mono (fun kd k v F2 H2 S2 T2 b2 => ⟨F2, kd, T2, S2, b2, k⟩) (Cm.all_bind.mp q1)⟩
  · exact ⟨dr, B, F2, env, T2, R1.step S2, Cm.All.mono (fun kd k v F3 H3 S3 T3 b3 => ⟨F3, kd, T3, S3, b3, k⟩) (Cm.all_bind.mp q2)⟩
  · have q3' : (if keyOk kvs kd = true ∧ flatD xd = true then .ret ((lookD kvs kd).getD xd) else (.bad : Cm D)).All _ := q3
    by_cases hk : keyOk kvs kd = true ∧ flatD xd = true
    · rw [if_pos hk] at q3'
      exact od_get2 hu I3 T3.sub ((ow.step S2 nd).step S3 nd) hk.1 (bp_dp T3 (b2.step S3) (keyOk_flat hk.1)) ry rz (rp_flat b3 hk.2) fun v w' s' I' rw' dd => ⟨v, H3, I', rw', q3' v F3 H3 (S2.trans S3 T3) T3 (.dp dd)⟩
    · rw [if_neg hk] at q3'
      exact q3'.elim

/-! ### d[k] = v, {} -/
def dNewD : DE := fun _ => .ret (.dict [])
def dDPut (i : Nat) (fk fv : DE) : DS := fun env => (fv env).bind fun d => match env[i]? with
  | some (.own (.dict kvs)) => (fk env).bind fun k => if keyOk kvs k = true ∧ kvs.length < 1000000 ∧ flatD d = true then .ret (.nx (env.set i (.own (.dict (putD kvs k d))))) else .bad
  | _ => .bad
theorem f_dnew : PE X (.Dict [] [] pos) (tF X.K dNewD) := pe_imp pe_dnewK fun σ H Q ⟨dr, B, F, env, s, r, q⟩ p hp => by
  obtain ⟨S2, T2, nf⟩ := lay_own s hp (.dK [])
  exact q p F _ S2 T2 hp nf (.inl ⟨[], upd_same, .nil⟩)
theorem s_dput {i : Nat} {pos' : Pos} (hu : X.A.units + 65 < cLine) (ho : PE X o (tVar i)) (hk : PE X a (tE X.K f1)) (hv : PE X e (tE X.K f)) (hs : swapsWith e (some (.Subscript o a pos')) pos.line X.env = pure false := by rfl) :
    PS X (.Assign [.Subscript o a pos'] e pos) (tS X.K (dDPut i f1 f)) := by
  refine ⟨fun pins s σ H Dn I h => ?_⟩
  obtain ⟨dr, F0, H0, F, env, T0, S, r, q⟩ := h
  refine wpAny_Assign_Subscript (thn (hv.run pins s σ H (fun z H1 => ∃ F1 d, Stt dr F1 H1 ∧ Step dr F H F1 H1 ∧ Rp X.K dr F1 z d ∧ (match env[i]? with
      | some (.own (.dict kvs)) => (f1 env).bind fun k => if keyOk kvs k = true ∧ kvs.length < 1000000 ∧ flatD d = true then .ret (.nx (env.set i (.own (.dict (putD kvs k d))))) else .bad
      | _ => .bad : Cm Out).All (Post X.K dr F0 H0 Dn)) I ⟨dr, H0, F, env, T0, r, Cm.All.mono (fun d k z F1 H1 S1 T1 r1 => ⟨F1, d, T1, S1, r1, k⟩) (Cm.all_bind.mp q)⟩)
    fun zv s1 ⟨z, H1, I1, rz, F1, d, T1, S1, r1, q1⟩ => ?_) hs
  split at q1
  · rename_i kvs hi
    have ra := r.step S1
    obtain ⟨o1, ho1, p, hq, hB, hF, hn, ow⟩ := ra.ok i _ hi
    subst hq
    refine thn (ho.run pins s1 σ H1 (fun x H2 => x = .ref p ∧ H2 = H1) I1 ⟨_, ho1, rfl, rfl⟩) fun uv s2 ⟨x, H2, I2, rx, ex, eH⟩ => ?_
    subst ex eH
    cases (show uv = Value.ref p from rx)
    refine thn (hk.run pins s2 σ H2 (fun y H3 => ∃ F3 k, Stt dr F3 H3 ∧ Step dr F1 H2 F3 H3 ∧ Rp X.K dr F3 y k ∧ (if keyOk kvs k = true ∧ kvs.length < 1000000 ∧ flatD d = true then .ret (.nx (env.set i (.own (.dict (putD kvs k d))))) else (.bad : Cm Out)).All (Post X.K dr F0 H0 Dn)) I2
      ⟨dr, H0, F1, env, T1, ra, Cm.All.mono (fun k kk y F3 H3 S3 T3 r3 => ⟨F3, k, T3, S3, r3, kk⟩) (Cm.all_bind.mp q1)⟩) fun iv s3 ⟨y, H3, I3, ry, F3, k, T3, S3, r3, q3⟩ => ?_
    by_cases hc : keyOk kvs k = true ∧ kvs.length < 1000000 ∧ flatD d = true
    · rw [if_pos hc] at q3
      refine od_put hu I3 T3.sub (ow.step S3 hn) hc.1 (rp_flat r3 (keyOk_flat hc.1)) ry hc.2.1 rz (dp_up S3.up _ _ (rp_flat r1 hc.2.2)) fun s' ob I' ow' => ?_
      obtain ⟨R2, T4, hb2⟩ := (ra.step S3).write T3 (o := ob) (d' := .dict (putD kvs k d)) hi ho1 ow'
      exact ⟨σ, _, I', q3 σ F3 _ T4 (step_write ((S.trans S1 T1).trans S3 T3) hB) R2⟩
    · rw [if_neg hc] at q3
      exact q3.elim
  · exact q1.elim
end
end Fs

set_option Elab.async false
set_option linter.all false
set_option maxRecDepth 100000
set_option maxHeartbeats 2000000
set_option autoImplicit false
namespace Fs
open PySem PySem.Spec PyProof.Rows L2
/-! ### the draws -/
abbrev kLarge : Key := .inr "large"
abbrev kRest : Key := .inr "rest"
abbrev kCells : Key := .inr "cells"
abbrev kTurn : Key := .inr "turn"
abbrev drKv (l c : Addr) (rest turn : Int) : List (Key × V) := [(kLarge, .ref l), (kRest, .int rest), (kCells, .ref c), (kTurn, .int turn)]
structure DrAt (dr : Dr) (H : Hp) (large cells : List Int) (rest turn : Int) : Prop where
  a : H dr.a = some (.dK (drKv dr.l dr.c rest turn))
  l : H dr.l = some (.lst (large.map V.int))
  c : H dr.c = some (.lst (cells.map V.int))
  n : dr.l ≠ dr.c
theorem DrawOk.at {dr : Dr} {H : Hp} (h : DrawOk dr H) : ∃ large cells rest turn, DrAt dr H large cells rest turn := by
  obtain ⟨l, c, r, t, h1, h2, h3, h4⟩ := h
  exact ⟨l, c, r, t, h1, h2, h3, h4⟩
theorem DrAt.ok {dr : Dr} {H : Hp} {large cells : List Int} {rest turn : Int} (h : DrAt dr H large cells rest turn) : DrawOk dr H := ⟨large, cells, rest, turn, h.a, h.l, h.c, h.n⟩
theorem DrAt.al {dr : Dr} {H : Hp} {large cells : List Int} {rest turn : Int} (h : DrAt dr H large cells rest turn) : dr.l ≠ dr.a := ne_of h.l h.a (fun z => by cases z)
theorem DrAt.ac {dr : Dr} {H : Hp} {large cells : List Int} {rest turn : Int} (h : DrAt dr H large cells rest turn) : dr.c ≠ dr.a := ne_of h.c h.a (fun z => by cases z)
theorem dr_setA {dr : Dr} {F H : Hp} {large cells : List Int} {rest turn : Int} (s : Stt dr F H) (h : DrAt dr H large cells rest turn) (r t : Int) :
    Stt dr F (upd H dr.a (.dK (drKv dr.l dr.c r t))) ∧ Step dr F H F (upd H dr.a (.dK (drKv dr.l dr.c r t))) ∧ DrAt dr (upd H dr.a (.dK (drKv dr.l dr.c r t))) large cells r t := by
  have D : DrAt dr (upd H dr.a (.dK (drKv dr.l dr.c r t))) large cells r t := ⟨upd_same, by rw [upd_ne h.al]; exact h.l, by rw [upd_ne h.ac]; exact h.c, h.n⟩
  refine ⟨⟨fun a o e => ?_, D.ok, s.nodr⟩, ⟨fun _ _ e => e, fun a o n e => ?_, fun _ _ e => .inl e⟩, D⟩
  · by_cases e1 : a = dr.a
    · rw [e1, s.nodr _ (.inl rfl)] at e; cases e
    · rw [upd_ne e1]; exact s.sub a o e
  · rw [upd_ne (fun e1 => n (.inl e1))]; exact e
theorem dr_setL {dr : Dr} {F H : Hp} {large cells : List Int} {rest turn : Int} (s : Stt dr F H) (h : DrAt dr H large cells rest turn) (m : List Int) :
    Stt dr F (upd H dr.l (.lst (m.map V.int))) ∧ Step dr F H F (upd H dr.l (.lst (m.map V.int))) ∧ DrAt dr (upd H dr.l (.lst (m.map V.int))) m cells rest turn := by
  have D : DrAt dr (upd H dr.l (.lst (m.map V.int))) m cells rest turn := ⟨by rw [upd_ne h.al.symm]; exact h.a, upd_same, by rw [upd_ne h.n.symm]; exact h.c, h.n⟩
  refine ⟨⟨fun a o e => ?_, D.ok, s.nodr⟩, ⟨fun _ _ e => e, fun a o n e => ?_, fun _ _ e => .inl e⟩, D⟩
  · by_cases e1 : a = dr.l
    · rw [e1, s.nodr _ (.inr (.inl rfl))] at e; cases e
    · rw [upd_ne e1]; exact s.sub a o e
  · rw [upd_ne (fun e1 => n (.inr (.inl e1)))]; exact e
theorem putRest (l c : Addr) (r t r' : Int) : putK (drKv l c r t) kRest (.int r') = drKv l c r' t := rfl
theorem putTurn (l c : Addr) (r t t' : Int) : putK (drKv l c r t) kTurn (.int t') = drKv l c r t' := rfl
theorem gLarge (l c : Addr) (r t : Int) : valV (drKv l c r t) kLarge = some (.ref l) := rfl
theorem gRest (l c : Addr) (r t : Int) : valV (drKv l c r t) kRest = some (.int r) := rfl
theorem gCells (l c : Addr) (r t : Int) : valV (drKv l c r t) kCells = some (.ref c) := rfl
theorem gTurn (l c : Addr) (r t : Int) : valV (drKv l c r t) kTurn = some (.int t) := rfl
/-- reading and storing in the draws' dict -/
theorem DrAt.get {dr : Dr} {H : Hp} {large cells : List Int} {rest turn : Int} (h : DrAt dr H large cells rest turn) {k : Key} {v : V} (e : valV (drKv dr.l dr.c rest turn) k = some v) : DGet H dr.a (kV k) (some v) := by
  rw [← e]; exact DGet.k h.a
theorem DrAt.putR {dr : Dr} {H : Hp} {large cells : List Int} {rest turn : Int} (h : DrAt dr H large cells rest turn) (r : Int) : DPut H dr.a (kV kRest) (.int r) (upd H dr.a (.dK (drKv dr.l dr.c r turn))) := by
  rw [← putRest dr.l dr.c rest turn r]; exact DPut.k h.a (show 4 < sizeLine by decide)
theorem DrAt.putT {dr : Dr} {H : Hp} {large cells : List Int} {rest turn : Int} (h : DrAt dr H large cells rest turn) (t : Int) : DPut H dr.a (kV kTurn) (.int t) (upd H dr.a (.dK (drKv dr.l dr.c rest t))) := by
  rw [← putTurn dr.l dr.c rest turn t]; exact DPut.k h.a (show 4 < sizeLine by decide)
/-- what the three defs are worth -/
def isDrw : D → Bool
  | .dict [(.none, .none)] => true
  | _ => false
theorem isDrw_eq {d : D} (h : isDrw d = true) : d = drwT := by
  unfold isDrw at h
  split at h
  · rfl
  · cases h
theorem rp_drw {K : PySem.W.Frag} {dr : Dr} {F : Hp} {v : V} (h : Rp K dr F v drwT) : v = .ref dr.a := by
  cases h with
  | dp z => cases z
  | drw => rfl
  | dct o =>
    rcases o with ⟨ks, _, x⟩ | ⟨xs, _, _, x⟩
    · cases x with
      | @cons k _ _ _ r _ =>
        exfalso
        have := r.1
        cases hk : k.1 with
        | inl i => rw [hk] at this; cases this
        | inr s => rw [hk] at this; cases this
    · have := x.ents
      cases this with
      | cons r _ => exact absurd r.1 (by decide)
def m_Lmixed : List D → Cm D := fun ds => match ds with
  | [d] => if isDrw d = true then .anyI fun i => .ret (.int i) else .bad
  | _ => .bad
def m_Ltake : List D → Cm D := fun ds => match ds with
  | [d, .int n] => if isDrw d = true ∧ 0 < n ∧ n.natAbs.log2 < 9000 then .ask n.toNat fun r => .ret (.int (r : Int)) else .bad
  | _ => .bad
/-- the state's facts carried on -/
theorem DrAt.ext {dr : Dr} {H H' : Hp} {large cells : List Int} {rest turn : Int} (h : DrAt dr H large cells rest turn) (k : ∀ a o, dr.has a → H a = some o → H' a = some o) : DrAt dr H' large cells rest turn :=
  ⟨k _ _ (.inl rfl) h.a, k _ _ (.inr (.inl rfl)) h.l, k _ _ (.inr (.inr rfl)) h.c, h.n⟩
theorem stt_grow {dr : Dr} {F H : Hp} (s : Stt dr F H) {p : Addr} (hp : H p = none) (o : HO) : Stt dr F (upd H p o) ∧ Step dr F H F (upd H p o) := by
  obtain ⟨a, b, _⟩ := lay_own s hp o
  exact ⟨b, a⟩
theorem grow_dr {dr : Dr} {H : Hp} {large cells : List Int} {rest turn : Int} (h : DrAt dr H large cells rest turn) {p : Addr} (hp : H p = none) (o : HO) : DrAt dr (upd H p o) large cells rest turn :=
  h.ext fun a u _ e => by rw [upd_ne (ne_of_none e hp)]; exact e
theorem map_int_inj {a b : List Int} (h : a.map V.int = b.map V.int) : a = b := by
  induction a generalizing b with
  | nil => cases b with
    | nil => rfl
    | cons _ _ => cases h
  | cons x r ih => cases b with
    | nil => cases h
    | cons y s =>
      simp only [List.map_cons, List.cons.injEq, V.int.injEq] at h
      rw [h.1, ih h.2]
theorem canLay_ints : ∀ ns : List Int, PyData.canLayAll0 (ns.map .int) = true
  | [] => by simp [PyData.canLayAll0]
  | n :: r => by
    rw [List.map_cons, PyData.canLayAll0, canLay_ints r]
    simp [PyData.canLay0]
theorem depth_ints : ∀ ns : List Int, PyData.depthAll (ns.map .int) = 0
  | [] => by simp [PyData.depthAll]
  | n :: r => by
    rw [List.map_cons, PyData.depthAll, depth_ints r]
    simp [PyData.depth]
theorem shaped_ints (ns : List Int) : SeqAt.shaped (.list (ns.map .int)) = true := by
  unfold SeqAt.shaped
  rw [PyData.canLay0, PyData.depth, canLay_ints, depth_ints]
  decide
def ite_nil (ns : List Int) : Prop := ∃ x r, ns = x :: r
theorem ite_nil_of {ns : List Int} (h : (!PyData.eqv (.list (ns.map .int)) (.list [])) = true) : ite_nil ns := by
  cases ns with
  | nil => simp [PyData.eqv, PyData.eqvAll] at h
  | cons x r => exact ⟨x, r, rfl⟩
theorem greats {i : Nat} {x : V} (h : [V.int 2147483647, V.int 2147483629, V.int 2147483587][i]? = some x) : ∃ g : Int, x = .int g ∧ 0 < g ∧ g < 2147483648 := by
  match i, h with
  | 0, h => cases h; exact ⟨_, rfl, by decide, by decide⟩
  | 1, h => cases h; exact ⟨_, rfl, by decide, by decide⟩
  | 2, h => cases h; exact ⟨_, rfl, by decide, by decide⟩
  | _ + 3, h => simp at h
/-- all that was tracked is as it was -/
def Kept (H H' : Hp) : Prop := ∀ b o, H b = some o → H' b = some o
theorem Kept.refl (H : Hp) : Kept H H := fun _ _ h => h
theorem Kept.trans {H H1 H2 : Hp} (a : Kept H H1) (b : Kept H1 H2) : Kept H H2 := fun c o h => b c o (a c o h)
theorem Kept.new {H : Hp} {p : Addr} {o : HO} (h : H p = none) : Kept H (upd H p o) := fun a u e => by rw [upd_ne (ne_of_none e h)]; exact e
theorem Kept.mut {H H' : Hp} {p : Addr} {o : HO} (k : Kept H H') (h : H p = none) : Kept H (upd H' p o) := fun a u e => by rw [upd_ne (ne_of_none e h)]; exact k a u e
theorem Kept.none {H H' : Hp} (k : Kept H H') {p : Addr} (h : H' p = .none) : H p = .none := by
  cases q : H p with
  | none => rfl
  | some o => rw [k p o q] at h; cases h
/-- what _law_begun promises -/
def spBegun (K : PySem.W.Frag) : Sp := fun vs H Q _ => ∃ (a : Addr) (ns : List Int), vs = [.ref a] ∧ SqL K H a (ns.map V.int) ∧ ns.length ≤ 63 ∧
  ∀ dr H', Kept H H' → DrawOk dr H' → H dr.a = none → H dr.l = none → H dr.c = none → Q (.ref dr.a) H'
end Fs

set_option Elab.async false
set_option linter.all false
set_option maxRecDepth 100000
set_option maxHeartbeats 2000000
set_option autoImplicit false
namespace Fs
open PySem PySem.Spec PyProof.Rows

/-! ### tuple(zip(x, y, z)) of three tuples -/
abbrev ZipOut (h : Heap) (z TI TO T : Addr) (f : Bool) : Prop := IsZipHeld h z TI TO T f
section
variable {prog : Program} {w : World} {A : Around} {E : Value → Shared → Prop} {s : Shared} {z TI TO i1 i2 i3 T : Addr} {fp1 fp2 fp3 : List Addr} {n1 n2 n3 i : Nat} {P1 P2 P3 : Nat → Value → Prop} {St1 St2 St3 : Nat → Heap → Prop} {f : Bool} {oT : Obj}

theorem z3_item {Q : Value → Shared → Prop} (S : ZipSep3 z TI TO i1 i2 i3 fp1 fp2 fp3) (D1 : Draws prog w A i1 fp1 n1 P1 St1) (D2 : Draws prog w A i2 fp2 n2 P2 St2) (D3 : Draws prog w A i3 fp3 n3 P3 St3)
    (hz : ZipOut s.heap z TI TO T f) (hT : s.heap.get? T = some oT) (hTI : IsTupOf3 s.heap TI (.ref i1) (.ref i2) (.ref i3)) (st1 : St1 i s.heap) (st2 : St2 i s.heap) (st3 : St3 i s.heap) (l1 : i < n1) (l2 : i < n2) (l3 : i < n3)
    (hQ : ∀ x1 x2 x3 h' tk, P1 i x1 → P2 i x2 → P3 i x3 → ZipOut h' z TI TO T true → St1 (i + 1) h' → St2 (i + 1) h' → St3 (i + 1) h' → IsTupOf3 h' s.heap.objs.size x1 x2 x3 →
      (∀ c o, c ≠ z → c ≠ i1 → c ≠ i2 → c ≠ i3 → s.heap.get? c = some o → h'.get? c = some o) → Q (.ref s.heap.objs.size) { s with heap := h', toks := tk }) :
    wpAny (model prog w) A (Builtin.«zip.__next__» ⟨[.ref z], []⟩) (fun fin s' => ∃ v, fin = .done (.ret v) ∧ Q v s') E s := by
  obtain ⟨hp, g, d, tk0, os⟩ := s
  show wpAny _ _ (field (.ref z) 2 >>= _) _ _ _
  refine wpAny_bind (wpAny_field hz rfl (x := .bool false) rfl ?_)
  show wpAny _ _ (field (.ref z) 3 >>= _) _ _ _
  refine wpAny_bind (wpAny_field hz rfl (x := .ref TI) rfl ?_)
  refine wpAny_bind (wpAny_seqItems hTI rfl ?_)
  show wpAny _ _ (Builtin.SmallTypes.ownedTupleIsFree (.ref z) >>= _) _ _ _
  refine wpAny_bind (wpAny_tupleHeld_zip hz hT fun h₁ hz₁ hs₁ => ?_)
  replace hs₁ : Heap.SameBut z hp h₁ := hs₁
  simp only [Bool.false_eq_true, if_false]
  refine wpAny_bind ?_
  rw [← Array.forIn_toList]
  simp only [List.forIn_cons, List.forIn_nil]
  refine wpAny_bind (wpAny_bind (wpAny_holding ?_))
  show wpAny _ _ (Builtin.SmallTypes.nextOf (.ref i1) >>= _) _ _ ⟨h₁, g, d, tk0, os⟩
  refine wpAny_bind (D1.item i _ _ _ l1 (D1.over st1 hs₁ S.zf1) fun x1 p1 tk1 hx1 sn1 hp1 => wpAny_pure ?_)
  replace hp1 : Heap.SameBut i1 h₁ p1 := hp1
  refine wpAny_pure ?_
  refine wpAny_bind (wpAny_bind (wpAny_holding ?_))
  show wpAny _ _ (Builtin.SmallTypes.nextOf (.ref i2) >>= _) _ _ ⟨p1, g, d, tk1, os⟩
  refine wpAny_bind (D2.item i _ _ _ l2 (D2.over (D2.over st2 hs₁ S.zf2) hp1 S.sep1_2) fun x2 p2 tk2 hx2 sn2 hp2 => wpAny_pure ?_)
  replace hp2 : Heap.SameBut i2 p1 p2 := hp2
  refine wpAny_pure ?_
  refine wpAny_bind (wpAny_bind (wpAny_holding ?_))
  show wpAny _ _ (Builtin.SmallTypes.nextOf (.ref i3) >>= _) _ _ ⟨p2, g, d, tk2, os⟩
  refine wpAny_bind (D3.item i _ _ _ l3 (D3.over (D3.over (D3.over st3 hs₁ S.zf3) hp1 S.sep1_3) hp2 S.sep2_3) fun x3 p3 tk3 hx3 sn3 hp3 => wpAny_pure ?_)
  replace hp3 : Heap.SameBut i3 p2 p3 := hp3
  refine wpAny_pure (wpAny_pure ?_)
  show wpAny _ _ (newTuple [x1, x2, x3] >>= _) _ _ _
  refine wpAny_bind (wpAny_newTuple ?_)
  have hsz : p3.objs.size = hp.objs.size := by rw [hp3.1, hp2.1, hp1.1, hs₁.1]
  have hzz : ZipOut p3 z TI TO T true := hp3.extBut _ _ S.zi3 (hp2.extBut _ _ S.zi2 (hp1.extBut _ _ S.zi1 hz₁))
  have hkk : ∀ c o, c ≠ z → c ≠ i1 → c ≠ i2 → c ≠ i3 → hp.get? c = some o → p3.get? c = some o := fun c o c0 c1 c2 c3 e =>
    hp3.extBut _ _ c3 (hp2.extBut _ _ c2 (hp1.extBut _ _ c1 (hs₁.extBut _ _ c0 e)))
  refine wpAny_pure ⟨_, rfl, ?_⟩
  have hU : IsTupOf3 (p3.push { cls := .type "tuple", data := .seq #[x1, x2, x3] }) p3.objs.size x1 x2 x3 := Heap.get?_push_size _ rfl
  have q1 := D1.frame _ _ (p3.push { cls := .type "tuple", data := .seq #[x1, x2, x3] }) (D1.over (D1.over sn1 hp2 S.sep2_1) hp3 S.sep3_1) fun b _ o e => Heap.get?_push_of_some _ e
  have q2 := D2.frame _ _ (p3.push { cls := .type "tuple", data := .seq #[x1, x2, x3] }) (D2.over sn2 hp3 S.sep3_2) fun b _ o e => Heap.get?_push_of_some _ e
  have q3 := D3.frame _ _ (p3.push { cls := .type "tuple", data := .seq #[x1, x2, x3] }) sn3 fun b _ o e => Heap.get?_push_of_some _ e
  rw [hsz] at hU
  show Q (.ref p3.objs.size) _
  rw [hsz]
  exact hQ x1 x2 x3 _ tk3 hx1 hx2 hx3 (Heap.get?_push_of_some _ hzz) q1 q2 q3 hU fun c o c0 c1 c2 c3 e => Heap.get?_push_of_some _ (hkk c o c0 c1 c2 c3 e)

theorem z3_end {Q : Fin → Shared → Prop} (S : ZipSep3 z TI TO i1 i2 i3 fp1 fp2 fp3) (D1 : Draws prog w A i1 fp1 n1 P1 St1) (D2 : Draws prog w A i2 fp2 n2 P2 St2) (D3 : Draws prog w A i3 fp3 n3 P3 St3)
    (hz : ZipOut s.heap z TI TO T f) (hT : s.heap.get? T = some oT) (hTI : IsTupOf3 s.heap TI (.ref i1) (.ref i2) (.ref i3)) (st1 : St1 i s.heap) (st2 : St2 i s.heap) (st3 : St3 i s.heap) (l1 : i ≤ n1) (l2 : i ≤ n2) (l3 : i ≤ n3) (he : i = n1 ∨ i = n2 ∨ i = n3)
    (hE : ∀ h' tk e, (∀ c o, c ≠ z → c ≠ i1 → c ≠ i2 → c ≠ i3 → s.heap.get? c = some o → h'.get? c = some o) → (∃ o, h'.get? e = some o ∧ o.cls = .type "StopIteration") → E (.ref e) { s with heap := h', toks := tk }) :
    wpAny (model prog w) A (Builtin.«zip.__next__» ⟨[.ref z], []⟩) Q E s := by
  obtain ⟨hp, g, d, tk0, os⟩ := s
  show wpAny _ _ (field (.ref z) 2 >>= _) _ _ _
  refine wpAny_bind (wpAny_field hz rfl (x := .bool false) rfl ?_)
  show wpAny _ _ (field (.ref z) 3 >>= _) _ _ _
  refine wpAny_bind (wpAny_field hz rfl (x := .ref TI) rfl ?_)
  refine wpAny_bind (wpAny_seqItems hTI rfl ?_)
  show wpAny _ _ (Builtin.SmallTypes.ownedTupleIsFree (.ref z) >>= _) _ _ _
  refine wpAny_bind (wpAny_tupleHeld_zip hz hT fun h₁ hz₁ hs₁ => ?_)
  replace hs₁ : Heap.SameBut z hp h₁ := hs₁
  simp only [Bool.false_eq_true, if_false]
  refine wpAny_bind ?_
  rw [← Array.forIn_toList]
  simp only [List.forIn_cons, List.forIn_nil]
  refine wpAny_bind (wpAny_bind (wpAny_holding ?_))
  show wpAny _ _ (Builtin.SmallTypes.nextOf (.ref i1) >>= _) _ _ ⟨h₁, g, d, tk0, os⟩
  by_cases q1 : i < n1
  · refine wpAny_bind (D1.item i _ _ _ q1 (D1.over st1 hs₁ S.zf1) fun x1 p1 tk1 hx1 sn1 hp1 => wpAny_pure ?_)
    replace hp1 : Heap.SameBut i1 h₁ p1 := hp1
    refine wpAny_pure ?_
    refine wpAny_bind (wpAny_bind (wpAny_holding ?_))
    show wpAny _ _ (Builtin.SmallTypes.nextOf (.ref i2) >>= _) _ _ ⟨p1, g, d, tk1, os⟩
    by_cases q2 : i < n2
    · refine wpAny_bind (D2.item i _ _ _ q2 (D2.over (D2.over st2 hs₁ S.zf2) hp1 S.sep1_2) fun x2 p2 tk2 hx2 sn2 hp2 => wpAny_pure ?_)
      replace hp2 : Heap.SameBut i2 p1 p2 := hp2
      refine wpAny_pure ?_
      have e3 : i = n3 := by omega
      refine wpAny_bind (wpAny_bind (wpAny_holding ?_))
      show wpAny _ _ (Builtin.SmallTypes.nextOf (.ref i3) >>= _) _ _ ⟨p2, g, d, tk2, os⟩
      refine wpAny_bind (D3.done ⟨p2, g, d, tk2, os⟩ _ _ (by rw [← e3]; exact D3.over (D3.over (D3.over st3 hs₁ S.zf3) hp1 S.sep1_3) hp2 S.sep2_3) fun q e hq he => ?_)
      exact hE q tk2 e (fun c o c0 c1 c2 c3 x => hq _ _ c3 (hp2.extBut _ _ c2 (hp1.extBut _ _ c1 (hs₁.extBut _ _ c0 x)))) he
    · have e2 : i = n2 := by omega
      refine wpAny_bind (D2.done ⟨p1, g, d, tk1, os⟩ _ _ (by rw [← e2]; exact D2.over (D2.over st2 hs₁ S.zf2) hp1 S.sep1_2) fun q e hq he => ?_)
      exact hE q tk1 e (fun c o c0 c1 c2 c3 x => hq _ _ c2 (hp1.extBut _ _ c1 (hs₁.extBut _ _ c0 x))) he
  · have e1 : i = n1 := by omega
    refine wpAny_bind (D1.done ⟨h₁, g, d, tk0, os⟩ _ _ (by rw [← e1]; exact D1.over st1 hs₁ S.zf1) fun q e hq he => ?_)
    exact hE q tk0 e (fun c o c0 c1 c2 c3 x => hq _ _ c1 (hs₁.extBut _ _ c0 x)) he

theorem z3_nextItem {Q : Option Value → Shared → Prop} (S : ZipSep3 z TI TO i1 i2 i3 fp1 fp2 fp3) (D1 : Draws prog w A.in1 i1 fp1 n1 P1 St1) (D2 : Draws prog w A.in1 i2 fp2 n2 P2 St2) (D3 : Draws prog w A.in1 i3 fp3 n3 P3 St3)
    (hz : ZipOut s.heap z TI TO T f) (hT : s.heap.get? T = some oT) (hTI : IsTupOf3 s.heap TI (.ref i1) (.ref i2) (.ref i3)) (st1 : St1 i s.heap) (st2 : St2 i s.heap) (st3 : St3 i s.heap) (l1 : i < n1) (l2 : i < n2) (l3 : i < n3)
    (hQ : ∀ x1 x2 x3 h' tk, P1 i x1 → P2 i x2 → P3 i x3 → ZipOut h' z TI TO T true → St1 (i + 1) h' → St2 (i + 1) h' → St3 (i + 1) h' → IsTupOf3 h' s.heap.objs.size x1 x2 x3 →
      (∀ c o, c ≠ z → c ≠ i1 → c ≠ i2 → c ≠ i3 → s.heap.get? c = some o → h'.get? c = some o) → Q (some (.ref s.heap.objs.size)) { s with heap := h', toks := tk }) :
    wpAny (model prog w) A (pyNext (.ref z)) Q E s := by
  have ty : s.TypeIs (.ref z) "zip" := ⟨_, hz, rfl⟩
  unfold pyNext
  refine wpAny_bind (wpAny_attempt (wpAny_callSpecial?_slot (name := Str.ofString "__next__") ty F.slot_zip_next ?_))
  refine wpAny_call_entry F.slot_zip_next ty F.entry_zip_next ?_ (F.args_zip_next_1 _)
  exact z3_item S D1 D2 D3 hz hT hTI st1 st2 st3 l1 l2 l3 fun x1 x2 x3 h' tk y1 y2 y3 b1 d1 d2 d3 b5 b7 => wpAny_pure (hQ x1 x2 x3 h' tk y1 y2 y3 b1 d1 d2 d3 b5 b7)
theorem z3_nextEnd {Q : Option Value → Shared → Prop} (S : ZipSep3 z TI TO i1 i2 i3 fp1 fp2 fp3) (D1 : Draws prog w A.in1 i1 fp1 n1 P1 St1) (D2 : Draws prog w A.in1 i2 fp2 n2 P2 St2) (D3 : Draws prog w A.in1 i3 fp3 n3 P3 St3)
    (hz : ZipOut s.heap z TI TO T f) (hT : s.heap.get? T = some oT) (hTI : IsTupOf3 s.heap TI (.ref i1) (.ref i2) (.ref i3)) (st1 : St1 i s.heap) (st2 : St2 i s.heap) (st3 : St3 i s.heap) (l1 : i ≤ n1) (l2 : i ≤ n2) (l3 : i ≤ n3) (he : i = n1 ∨ i = n2 ∨ i = n3)
    (hQ : ∀ h' tk, (∀ c o, c ≠ z → c ≠ i1 → c ≠ i2 → c ≠ i3 → s.heap.get? c = some o → h'.get? c = some o) → Q none { s with heap := h', toks := tk }) : wpAny (model prog w) A (pyNext (.ref z)) Q E s := by
  have ty : s.TypeIs (.ref z) "zip" := ⟨_, hz, rfl⟩
  unfold pyNext
  refine wpAny_bind (wpAny_attempt (wpAny_callSpecial?_slot (name := Str.ofString "__next__") ty F.slot_zip_next ?_))
  refine wpAny_call_entry F.slot_zip_next ty F.entry_zip_next (z3_end S D1 D2 D3 hz hT hTI st1 st2 st3 l1 l2 l3 he fun h' tk e hk hx => ?_) (F.args_zip_next_1 _)
  obtain ⟨o, ho, hc⟩ := hx
  refine wpAny_bind (wpAny_isInstance (T := "StopIteration") (b := true) ⟨o, ho, hc⟩ isSubtype_stop ?_)
  exact wpAny_pure (hQ _ _ hk)
end

/-! what a walk lays: the items so far are part of the state -/
structure WalkA (prog : Program) (w : World) (A : Around) (I S : Addr) (wr : List Addr) (n : Nat) (St : Nat → Array Value → Shared → Prop) (Fi : Array Value → Shared → Prop) : Prop where
  nS : S ∉ wr
  size : ∀ i acc s, St i acc s → acc.size = i
  frame : ∀ i acc (s : Shared) h' tk, St i acc s → (∀ b, b ≠ S → ∀ o, s.heap.get? b = some o → h'.get? b = some o) → s.heap.objs.size ≤ h'.objs.size → St i acc { s with heap := h', toks := tk }
  item : ∀ i acc (s : Shared) (Q : Option Value → Shared → Prop) (E : Value → Shared → Prop), i < n → St i acc s →
    (∀ v h' tk, St (i + 1) (acc.push v) { s with heap := h', toks := tk } → (∀ b o, b ∉ wr → s.heap.get? b = some o → h'.get? b = some o) → Q (some v) { s with heap := h', toks := tk }) → wpAny (model prog w) A (pyNext (.ref I)) Q E s
  done : ∀ acc (s : Shared) (Q : Option Value → Shared → Prop) (E : Value → Shared → Prop), St n acc s → (∀ h' tk, acc.size = n → Fi acc { s with heap := h', toks := tk } → (∀ b o, b ∉ wr → s.heap.get? b = some o → h'.get? b = some o) → Q none { s with heap := h', toks := tk }) → wpAny (model prog w) A (pyNext (.ref I)) Q E s
section
variable {prog : Program} {w : World} {A : Around} {R : Result → Shared → Prop} {I S : Addr} {wr : List Addr} {n : Nat} {St : Nat → Array Value → Shared → Prop} {Fi : Array Value → Shared → Prop}
theorem ext_loopA (W : WalkA prog w A.in1 I S wr n St Fi) (hn : n ≤ sizeLine) (res : Value) :
    ∀ (k i : Nat) (s : Shared) (acc : Array Value) (c : Nat), n - i = k → i ≤ n → St i acc s → s.heap.get? S = some { cls := .type "list", dict := none, data := .seq acc c, slots := #[] } →
    (∀ h' tk acc' c', (∀ b o, b ∉ S :: wr → s.heap.get? b = some o → h'.get? b = some o) → h'.get? S = some { cls := .type "list", dict := none, data := .seq acc' c', slots := #[] } → acc'.size = n → Fi acc' { s with heap := h', toks := tk } → R (.ok (.ret res)) { s with heap := h', toks := tk }) →
    codeAny (model prog w) A (.builtin "list.extend.loop" ⟨[.ref S, .ref I, res], []⟩) R s := by
  intro k
  induction k with
  | zero =>
    intro i s acc c hk hi hst hS hR
    obtain rfl : i = n := by omega
    refine codeAny_builtin F.entry_extend_loop ?_
    rw [Around.under_plainId F.plain_extend_loop _]
    show wpAny _ A.in1 (pyNext (.ref I) >>= _) _ _ s
    refine wpAny_bind (W.done acc s _ _ hst fun h' tk es st k => ?_)
    exact wpAny_pure (hR h' tk acc c (fun b o hb e => k b o (fun z => hb (List.mem_cons_of_mem _ z)) e) (k S _ W.nS hS) es st)
  | succ k ih =>
    intro i s acc c hk hi hst hS hR
    have hlt : i < n := by omega
    have hsz := W.size _ _ _ hst
    refine codeAny_builtin F.entry_extend_loop ?_
    rw [Around.under_plainId F.plain_extend_loop _]
    show wpAny _ A.in1 (pyNext (.ref I) >>= _) _ _ s
    refine wpAny_bind (W.item i acc s _ _ hlt hst fun v h' tk st k => ?_)
    have hS' := k S _ W.nS hS
    show wpAny _ A.in1 (updateSeq S (·.push v) >>= _) _ _ _
    refine wpAny_bind ?_
    refine wpAny_updateSeq (s := { s with heap := h', toks := tk }) hS' rfl (wpAny_pure ⟨plainId_quiet F.plain_extend_loop _, ?_⟩) (by rw [hsz]; omega) (by show (acc.push v).size ≤ sizeLine + 1; rw [Array.size_push, hsz]; omega)
    refine ih (i + 1) _ (acc.push v) _ (by omega) hlt (W.frame _ _ { s with heap := h', toks := tk } _ tk st (fun b hb o e => (Heap.get?_update_other _ _ (Ne.symm hb)).trans e) (by rw [Heap.size_update]; exact Nat.le_refl _)) (Heap.get?_update_self _ hS' rfl) fun h'' tk' acc' c' k' hS'' es' st' => ?_
    refine hR h'' tk' acc' c' (fun b o hb e => k' b o hb ?_) hS'' es' st'
    exact (Heap.get?_update_other _ _ (fun z : S = b => hb (by rw [z]; exact List.mem_cons_self))).trans (k b o (fun z => hb (List.mem_cons_of_mem _ z)) e)
end
theorem nolen_zip : typeLookup (.type "zip") "__len__" = pure none := by rw [typeLookup_type, builtinLookup_eq_fast]; kernel_rfl
theorem nohint_zip : typeLookup (.type "zip") "__length_hint__" = pure none := by rw [typeLookup_type, builtinLookup_eq_fast]; kernel_rfl
section
variable {prog : Program} {w : World} {A : Around} {E : Value → Shared → Prop} {s : Shared} {I : Addr} {wr : List Addr} {n : Nat} {St : Nat → Array Value → Shared → Prop} {Fi : Array Value → Shared → Prop}
theorem collectA {Q : List Value → Shared → Prop} (W : WalkA prog w A.in1 I s.heap.objs.size wr n St Fi) (hT : ∀ s' : Shared, (∀ b o, s.heap.get? b = some o → s'.heap.get? b = some o) → s'.TypeIs (.ref I) "zip") (hit : ∀ s' : Shared, (∀ b o, s.heap.get? b = some o → s'.heap.get? b = some o) → ∀ (A : Around) (E : Value → Shared → Prop) (Q : Value → Shared → Prop), Q (.ref I) s' → wpAny (model prog w) A (pyIter (.ref I)) Q E s')
    (hne : s.heap.objs.size ≠ I) (hst : ∀ h' tk, (∀ b o, s.heap.get? b = some o → h'.get? b = some o) → h'.objs.size = s.heap.objs.size + 1 → St 0 #[] { s with heap := h', toks := tk }) (hn : n ≤ sizeLine)
    (hQ : ∀ h' tk acc, (∀ b o, b ∉ wr → s.heap.get? b = some o → h'.get? b = some o) → acc.size = n → Fi acc { s with heap := h', toks := tk } → Q acc.toList { s with heap := h', toks := tk }) : wpAny (model prog w) A (collect (.ref I)) Q E s := by
  unfold collect
  refine wpAny_bind (wpAny_runValue (codeAny_builtin F.entry_proto_collect ?_))
  rw [Around.under_plainId F.plain_proto_collect _]
  show wpAny _ A.in1 (newList [] >>= fun l => again (.builtin "list.__iadd__" ⟨[l, .ref I], []⟩)) _ _ s
  refine wpAny_bind (wpAny_newObj_type ?_)
  refine wpAny_pure ⟨plainId_quiet F.plain_list_iadd _, codeAny_builtin F.entry_list_iadd ?_⟩
  rw [Around.under_plainId F.plain_list_iadd _]
  have k0 : ∀ b o, s.heap.get? b = some o → (s.heap.push { cls := .type "list", data := .seq ([] : List Value).toArray }).get? b = some o := fun b o e => Heap.get?_push_of_some _ e
  have ty := hT { s with heap := s.heap.push { cls := .type "list", data := .seq ([] : List Value).toArray } } k0
  show wpAny _ A.in1 (Builtin.List.listExtendWith (.ref s.heap.objs.size) (.ref I) (.ref s.heap.objs.size)) _ _ _
  unfold Builtin.List.listExtendWith
  refine wpAny_bind (wpAny_typeOf ty ?_)
  have h1 : Builtin.List.listSameRef (.ref s.heap.objs.size) (.ref I) = false := by simp [Builtin.List.listSameRef, hne]
  have h2 : (Value.type "zip" == Value.type "list") = false := by decide
  have h3 : (Value.type "zip" == Value.type "tuple") = false := by decide
  simp only [h1, h2, h3, Bool.or_false, Bool.false_eq_true, if_false]
  refine wpAny_bind (hit { s with heap := s.heap.push { cls := .type "list", data := .seq ([] : List Value).toArray } } k0 _ _ _ ?_)
  refine wpAny_bind (wpAny_holding ?_)
  unfold Builtin.List.listLengthHint
  refine wpAny_bind (wpAny_specialOf ty nolen_zip ?_)
  show wpAny _ A.in1 (specialOf (Value.ref I) (Str.ofString "__length_hint__") >>= _) _ _ _
  refine wpAny_bind (wpAny_specialOf ty nohint_zip ?_)
  refine wpAny_pure ?_
  show wpAny _ A.in1 (rule "list.extend.makes-room" >>= fun _ => Builtin.List.listTouch (.ref s.heap.objs.size) >>= fun _ =>
    again (.builtin "list.extend.loop" ⟨[.ref s.heap.objs.size, .ref I, .ref s.heap.objs.size], []⟩)) _ _ _
  refine wpAny_bind (wpAny_rule ?_)
  have hS₁ : (s.heap.push { cls := .type "list", data := .seq ([] : List Value).toArray }).get? s.heap.objs.size = some { cls := .type "list", data := .seq ([] : List Value).toArray } := Heap.get?_push_size _ rfl
  refine wpAny_bind ?_
  show wpAny _ A.in1 (updateSeq s.heap.objs.size (·.push .none) >>= fun _ => updateSeq s.heap.objs.size (·.pop)) _ _ _
  refine wpAny_bind (wpAny_updateSeq hS₁ rfl ?_)
  have hS₂ := Heap.get?_update_self (Obj.mapSeq (·.push Value.none)) hS₁ rfl
  refine wpAny_updateSeq hS₂ rfl ?_
  have hS₃ := Heap.get?_update_self (Obj.mapSeq (·.pop)) hS₂ rfl
  have hne' : ∀ {b o}, s.heap.get? b = some o → b ≠ s.heap.objs.size := fun e => Nat.ne_of_lt (Heap.lt_size e)
  have oth : ∀ b o, s.heap.get? b = some o →
      (((s.heap.push { cls := .type "list", data := .seq ([] : List Value).toArray }).update s.heap.objs.size (Obj.mapSeq (·.push Value.none))).update s.heap.objs.size (Obj.mapSeq (·.pop))).get? b = some o :=
    fun b o e => (Heap.get?_update_other _ _ (Ne.symm (hne' e))).trans ((Heap.get?_update_other _ _ (Ne.symm (hne' e))).trans (k0 b o e))
  refine wpAny_pure ⟨plainId_quiet F.plain_extend_loop _, ext_loopA W hn _ n 0 _ _ _ rfl (Nat.zero_le _) (hst _ s.toks oth (by rw [Heap.size_update, Heap.size_update, Heap.size_push])) hS₃ fun h' tk acc' c' hm hS' es st => ?_⟩
  show wpAny _ A (load s.heap.objs.size >>= _) _ _ { s with heap := h', toks := tk }
  refine wpAny_bind (wpAny_load hS' ?_)
  refine wpAny_pure (hQ h' tk acc' (fun b o hb e => hm b o (fun z => ?_) (oth b o e)) es st)
  rcases List.mem_cons.mp z with z | z
  · exact hne' e z
  · exact hb z
theorem tuple_newA {Q₁ : Value → Shared → Prop} (W : WalkA prog w A.in1.in1 I s.heap.objs.size wr n St Fi) (hT : ∀ s' : Shared, (∀ b o, s.heap.get? b = some o → s'.heap.get? b = some o) → s'.TypeIs (.ref I) "zip") (hit : ∀ s' : Shared, (∀ b o, s.heap.get? b = some o → s'.heap.get? b = some o) → ∀ (A : Around) (E : Value → Shared → Prop) (Q : Value → Shared → Prop), Q (.ref I) s' → wpAny (model prog w) A (pyIter (.ref I)) Q E s')
    (hne : s.heap.objs.size ≠ I) (hst : ∀ h' tk, (∀ b o, s.heap.get? b = some o → h'.get? b = some o) → h'.objs.size = s.heap.objs.size + 1 → St 0 #[] { s with heap := h', toks := tk }) (hn : n ≤ sizeLine)
    (h : ∀ h' tk acc, (∀ b o, b ∉ wr → s.heap.get? b = some o → h'.get? b = some o) → acc.size = n → Fi acc { s with heap := h', toks := tk } → Q₁ (.ref h'.objs.size) { s with heap := h'.push { cls := .type "tuple", data := .seq acc }, toks := tk }) :
    codeAny (model prog w) A (.call (.builtin "tuple.__new__") ⟨[.type "tuple", .ref I], []⟩) (wants Q₁ E) s := by
  refine codeAny_of_tree ?_
  show wpAny _ A.in1 (do checkBuiltinCall "tuple.__new__" ⟨[.type "tuple", .ref I], []⟩; again (.builtin "tuple.__new__" ⟨[.type "tuple", .ref I], []⟩)) _ _ s
  refine wpAny_bind (wpAny_of_eq (F.newCall_tuple_1 _) (wpAny_pure ⟨plainId_quiet F.plain_tuple_new _, codeAny_builtin F.entry_tuple_new ?_⟩))
  rw [Around.under_plainId F.plain_tuple_new _]
  have hsub := sub_tuple_self
  have hinit := init_tuple_lookup
  have hmh := madeHere_tuple
  have hTI := hT s fun _ _ e => e
  wp_walk using wpAny_typeOf hTI, collectA W hT hit hne hst hn
  intro h' tk acc hk es st
  show wpAny _ _ (Builtin.Tuple.tupleExact acc.toList.toArray >>= fun v => ret v) _ _ _
  unfold Builtin.Tuple.tupleExact
  have e : acc.toList.toArray = acc := by simp
  refine wpAny_bind (wpAny_newObj_type ?_ (by rw [e]; show acc.size ≤ sizeLine; rw [es]; exact hn))
  refine wpAny_pure ?_
  rw [e]
  exact h h' tk acc hk es st
theorem call_tupleA {Q : Value → Shared → Prop} (W : WalkA prog w A.in1.in1.in1 I s.heap.objs.size wr n St Fi) (hT : ∀ s' : Shared, (∀ b o, s.heap.get? b = some o → s'.heap.get? b = some o) → s'.TypeIs (.ref I) "zip") (hit : ∀ s' : Shared, (∀ b o, s.heap.get? b = some o → s'.heap.get? b = some o) → ∀ (A : Around) (E : Value → Shared → Prop) (Q : Value → Shared → Prop), Q (.ref I) s' → wpAny (model prog w) A (pyIter (.ref I)) Q E s')
    (hne : s.heap.objs.size ≠ I) (hst : ∀ h' tk, (∀ b o, s.heap.get? b = some o → h'.get? b = some o) → h'.objs.size = s.heap.objs.size + 1 → St 0 #[] { s with heap := h', toks := tk }) (hn : n ≤ sizeLine)
    (hQ : ∀ h' tk acc, (∀ b o, b ∉ wr → s.heap.get? b = some o → h'.get? b = some o) → acc.size = n → Fi acc { s with heap := h', toks := tk } → Q (.ref h'.objs.size) { s with heap := h'.push { cls := .type "tuple", data := .seq acc }, toks := tk }) :
    wpAny (model prog w) A (call (.type "tuple") [.ref I]) Q E s := by
  refine callType_codes (Q₁ := fun obj s₁ => s₁.TypeIs obj "tuple" ∧ Q obj s₁) F.called_tuple (F.typeCall_tuple_1 _) F.entry_object_init ?_ fun obj s₁ h₁ => ?_
  · exact tuple_newA (A := A.in1) W hT hit hne hst hn fun h' tk acc hk es st => ⟨⟨_, Heap.get?_push_size _ rfl, rfl⟩, hQ h' tk acc hk es st⟩
  · exact ⟨h₁.1, F.args_object_init_2 obj _, object_init_meets F.called_tuple.init.lookup F.called_tuple.made (by decide) prog w A.in1 _ s₁ ⟨h₁.1, rfl, h₁.2⟩⟩
end

/-! the zip of three tuples at work -/
def Z3St (z TI TO i1 i2 i3 S a b c : Addr) (xs ys zs : Array Value) (i : Nat) (acc : Array Value) (s : Shared) : Prop :=
  acc.size = i ∧ S < s.heap.objs.size ∧ IsTupOf3 s.heap TI (.ref i1) (.ref i2) (.ref i3) ∧ (s.heap.IsTupleIter i1 a i ∧ s.heap.IsTuple a xs) ∧ (s.heap.IsTupleIter i2 b i ∧ s.heap.IsTuple b ys) ∧ (s.heap.IsTupleIter i3 c i ∧ s.heap.IsTuple c zs) ∧
  ((i = 0 ∧ IsZip s.heap z TI TO .none ∧ ∃ a1 a2 a3, IsTupOf3 s.heap TO a1 a2 a3) ∨ ∃ T f oT, S < T ∧ ZipOut s.heap z TI TO T f ∧ s.heap.get? T = some oT) ∧
  (∀ (j : Nat) (v : Value), acc[j]? = some v → ∃ (T : Addr) (x y u : Value), v = Value.ref T ∧ S < T ∧ xs[j]? = some x ∧ ys[j]? = some y ∧ zs[j]? = some u ∧ IsTupOf3 s.heap T x y u) ∧ ∀ (j k : Nat) (T : Addr), acc[j]? = some (Value.ref T) → acc[k]? = some (Value.ref T) → j = k
def Z3Fi (S : Addr) (xs ys zs : Array Value) (acc : Array Value) (s : Shared) : Prop :=
  (∀ (j : Nat) (v : Value), acc[j]? = some v → ∃ (T : Addr) (x y u : Value), v = Value.ref T ∧ S < T ∧ xs[j]? = some x ∧ ys[j]? = some y ∧ zs[j]? = some u ∧ IsTupOf3 s.heap T x y u) ∧ ∀ (j k : Nat) (T : Addr), acc[j]? = some (Value.ref T) → acc[k]? = some (Value.ref T) → j = k
theorem z3_walk {prog : Program} {w : World} {A : Around} {z TI TO i1 i2 i3 S a b c : Addr} {xs ys zs : Array Value} (hh : A.handled = none) (Z : ZipSep3 z TI TO i1 i2 i3 [i1, a] [i2, b] [i3, c]) (na : a ≠ i1) (nb : b ≠ i2) (nc : c ≠ i3)
    (hS : z < S ∧ TI < S ∧ TO < S ∧ i1 < S ∧ i2 < S ∧ i3 < S ∧ a < S ∧ b < S ∧ c < S) :
    WalkA prog w A z S [z, TO, i1, i2, i3] (min (min xs.size ys.size) zs.size) (Z3St z TI TO i1 i2 i3 S a b c xs ys zs) (Z3Fi S xs ys zs) where
  nS := by
    obtain ⟨h1, h2, h3, h4, h5, h6, _⟩ := hS
    simp only [List.mem_cons, List.not_mem_nil, or_false, not_or]
    exact ⟨Nat.ne_of_gt h1, Nat.ne_of_gt h3, Nat.ne_of_gt h4, Nat.ne_of_gt h5, Nat.ne_of_gt h6⟩
  size := fun i acc s h => h.1
  frame := fun i acc s h' tk st k hle => by
    obtain ⟨h1, h2, h3, h4, h5, h6, h7, h8, h9⟩ := hS
    obtain ⟨e0, lt, hTI, ⟨q1, q1'⟩, ⟨q2, q2'⟩, ⟨q3, q3'⟩, hz, hacc, inj⟩ := st
    have kk : ∀ {b o}, b < S → s.heap.get? b = some o → h'.get? b = some o := fun hb e => k _ (Nat.ne_of_lt hb) _ e
    refine ⟨e0, Nat.lt_of_lt_of_le lt hle, kk h2 hTI, ⟨q1.at fun o e => kk h4 e, q1'.at fun o e => kk h7 e⟩, ⟨q2.at fun o e => kk h5 e, q2'.at fun o e => kk h8 e⟩, ⟨q3.at fun o e => kk h6 e, q3'.at fun o e => kk h9 e⟩, ?_, fun j v hj => ?_, inj⟩
    · rcases hz with ⟨ei, hz, a1, a2, a3, hTO⟩ | ⟨T, f, oT, hlt, hz, hT⟩
      · exact .inl ⟨ei, kk h1 hz, a1, a2, a3, kk h3 hTO⟩
      · exact .inr ⟨T, f, oT, hlt, kk h1 hz, k _ (Nat.ne_of_gt hlt) _ hT⟩
    · obtain ⟨T, x, y, u, ev, hlt, hx, hy, hu, hT⟩ := hacc j v hj
      exact ⟨T, x, y, u, ev, hlt, hx, hy, hu, k _ (Nat.ne_of_gt hlt) _ hT⟩
  item := fun i acc s Q E hi st hQ => by
    obtain ⟨h1, h2, h3, h4, h5, h6, h7, h8, h9⟩ := hS
    obtain ⟨e0, lt, hTI, q1, q2, q3, hz, hacc, inj⟩ := st
    have ne : ∀ {b T}, b < S → S < T → T ≠ b := fun h h' => Nat.ne_of_gt (Nat.lt_trans h h')
    have key : ∀ x1 x2 x3 h' tk, xs[i]? = some x1 → ys[i]? = some x2 → zs[i]? = some x3 → (∃ T f oT, S < T ∧ ZipOut h' z TI TO T f ∧ h'.get? T = some oT) → (h'.IsTupleIter i1 a (i + 1) ∧ h'.IsTuple a xs) → (h'.IsTupleIter i2 b (i + 1) ∧ h'.IsTuple b ys) → (h'.IsTupleIter i3 c (i + 1) ∧ h'.IsTuple c zs) →
        IsTupOf3 h' s.heap.objs.size x1 x2 x3 → (∀ c o, c ≠ z → c ≠ TO → c ≠ i1 → c ≠ i2 → c ≠ i3 → s.heap.get? c = some o → h'.get? c = some o) → Q (some (.ref s.heap.objs.size)) { s with heap := h', toks := tk } := by
      intro x1 x2 x3 h' tk y1 y2 y3 zo d1 d2 d3 hU hk
      refine hQ _ h' tk ⟨by rw [Array.size_push, e0], Nat.lt_trans lt (Heap.lt_size hU), hk _ _ Z.TIz Z.TITO Z.TIi1 Z.TIi2 Z.TIi3 hTI, d1, d2, d3, .inr zo, fun j v hj => ?_, fun j k T hj hk' => ?_⟩ fun b o hb e => ?_
      · rw [Array.getElem?_push] at hj
        split at hj
        · rename_i ej
          cases hj
          rw [e0] at ej
          subst ej
          exact ⟨_, x1, x2, x3, rfl, lt, y1, y2, y3, hU⟩
        · obtain ⟨T, x, y, u, ev, hlt, hx, hy, hu, hT⟩ := hacc j v hj
          exact ⟨T, x, y, u, ev, hlt, hx, hy, hu, hk _ _ (ne h1 hlt) (ne h3 hlt) (ne h4 hlt) (ne h5 hlt) (ne h6 hlt) hT⟩
      · have old : ∀ j, acc[j]? = some (Value.ref s.heap.objs.size) → False := fun j hj => by
          obtain ⟨T, x, y, u, ev, hlt, hx, hy, hu, hT⟩ := hacc j _ hj
          cases ev
          exact Nat.lt_irrefl _ (Heap.lt_size hT)
        rw [Array.getElem?_push] at hj hk'
        split at hj
        · split at hk'
          · omega
          · cases hj; exact (old _ hk').elim
        · split at hk'
          · cases hk'; exact (old _ hj).elim
          · exact inj j k T hj hk'
      · simp only [List.mem_cons, List.not_mem_nil, or_false, not_or] at hb
        exact hk b o hb.1 hb.2.1 hb.2.2.1 hb.2.2.2.1 hb.2.2.2.2 e
    have g1 : i < xs.size := by omega
    have g2 : i < ys.size := by omega
    have g3 : i < zs.size := by omega
    have D1 := Draws.tuple (prog := prog) (w := w) (A := A.in1) hh i1 a na xs
    have D2 := Draws.tuple (prog := prog) (w := w) (A := A.in1) hh i2 b nb ys
    have D3 := Draws.tuple (prog := prog) (w := w) (A := A.in1) hh i3 c nc zs
    rcases hz with ⟨ei, hz, a1, a2, a3, hTO⟩ | ⟨T, f, oT, hlt, hz, hT⟩
    · refine wpAny_pyNext_zipD3_item Z D1 D2 D3 hz hTI hTO q1 q2 q3 g1 g2 g3 fun x1 x2 x3 h' tk y1 y2 y3 b1 b2 d1 d2 d3 b5 b6 hk => ?_
      exact key x1 x2 x3 h' tk y1 y2 y3 ⟨s.heap.objs.size, false, _, lt, b1, b5⟩ d1 d2 d3 b5 hk
    · refine z3_nextItem Z D1 D2 D3 hz hT hTI q1 q2 q3 g1 g2 g3 fun x1 x2 x3 h' tk y1 y2 y3 b1 d1 d2 d3 b5 hk => ?_
      exact key x1 x2 x3 h' tk y1 y2 y3 ⟨T, true, oT, hlt, b1, hk _ _ (ne h1 hlt) (ne h4 hlt) (ne h5 hlt) (ne h6 hlt) hT⟩ d1 d2 d3 b5 fun c o c0 _ c1 c2 c3 e => hk c o c0 c1 c2 c3 e
  done := fun acc s Q E st hQ => by
    obtain ⟨h1, h2, h3, h4, h5, h6, h7, h8, h9⟩ := hS
    obtain ⟨e0, lt, hTI, q1, q2, q3, hz, hacc, inj⟩ := st
    have ne : ∀ {b T}, b < S → S < T → T ≠ b := fun h h' => Nat.ne_of_gt (Nat.lt_trans h h')
    have D1 := Draws.tuple (prog := prog) (w := w) (A := A.in1) hh i1 a na xs
    have D2 := Draws.tuple (prog := prog) (w := w) (A := A.in1) hh i2 b nb ys
    have D3 := Draws.tuple (prog := prog) (w := w) (A := A.in1) hh i3 c nc zs
    have key : ∀ h' tk, (∀ c o, c ≠ z → c ≠ TO → c ≠ i1 → c ≠ i2 → c ≠ i3 → s.heap.get? c = some o → h'.get? c = some o) → Q none { s with heap := h', toks := tk } := by
      intro h' tk hk
      refine hQ h' tk e0 ⟨fun j v hj => ?_, inj⟩ fun b o hb e => ?_
      · obtain ⟨T, x, y, u, ev, hlt, hx, hy, hu, hT⟩ := hacc j v hj
        exact ⟨T, x, y, u, ev, hlt, hx, hy, hu, hk _ _ (ne h1 hlt) (ne h3 hlt) (ne h4 hlt) (ne h5 hlt) (ne h6 hlt) hT⟩
      · simp only [List.mem_cons, List.not_mem_nil, or_false, not_or] at hb
        exact hk b o hb.1 hb.2.1 hb.2.2.1 hb.2.2.2.1 hb.2.2.2.2 e
    rcases hz with ⟨ei, hz, a1, a2, a3, hTO⟩ | ⟨T, f, oT, hlt, hz, hT⟩
    · exact wpAny_pyNext_zipD3_end Z D1 D2 D3 hz hTI hTO q1 q2 q3 (by omega) (by omega) (by omega) (by omega) key
    · exact z3_nextEnd Z D1 D2 D3 hz hT hTI q1 q2 q3 (by omega) (by omega) (by omega) (by omega) fun h' tk hk => key h' tk fun c o c0 _ c1 c2 c3 e => hk c o c0 c1 c2 c3 e
end Fs

set_option Elab.async false
set_option linter.all false
set_option maxRecDepth 100000
set_option maxHeartbeats 2000000
set_option autoImplicit false
namespace Fs
open PySem PySem.Spec PyProof.Rows L2

/-! many objects laid at once -/
def laysF : Hp → List (Addr × HO) → Hp
  | H, [] => H
  | H, p :: L => laysF (upd H p.1 p.2) L
def Chain : Hp → List (Addr × HO) → Prop
  | _, [] => True
  | H, p :: L => H p.1 = none ∧ Chain (upd H p.1 p.2) L
theorem laysF_out : ∀ {L : List (Addr × HO)} {H : Hp} {b : Addr}, (∀ p ∈ L, p.1 ≠ b) → laysF H L b = H b
  | [], _, _, _ => rfl
  | p :: L, H, b, h => (laysF_out fun q hq => h q (List.mem_cons_of_mem _ hq)).trans (upd_ne (Ne.symm (h p List.mem_cons_self)))
theorem laysF_in : ∀ {L : List (Addr × HO)} {H : Hp} {b : Addr} {o : HO}, laysF H L b = some o → H b = some o ∨ (b, o) ∈ L
  | [], _, _, _, h => .inl h
  | p :: L, H, b, o, h => by
    rcases laysF_in (L := L) h with e | e
    · by_cases hb : b = p.1
      · subst hb; rw [upd_same] at e; cases e; exact .inr List.mem_cons_self
      · rw [upd_ne hb] at e; exact .inl e
    · exact .inr (List.mem_cons_of_mem _ e)
theorem chain_of : ∀ {L : List (Addr × HO)} {H : Hp}, (L.map (·.1)).Nodup → (∀ p ∈ L, H p.1 = none) → Chain H L
  | [], _, _, _ => trivial
  | p :: L, H, n, h => by
    rw [List.map_cons, List.nodup_cons] at n
    refine ⟨h p List.mem_cons_self, chain_of n.2 fun q hq => ?_⟩
    rw [upd_ne (fun e => n.1 (by rw [← e]; exact List.mem_map_of_mem hq))]
    exact h q (List.mem_cons_of_mem _ hq)
theorem inv_ext {X : Cx} {pins : List (Addr × Obj)} {σ : L2.St} {H H' : Hp} {s : Shared} {h' : Heap} {t' : Nat} (I : Inv X pins σ H s) (k : ∀ b u, s.heap.get? b = some u → h'.get? b = some u)
    (p1 : ∀ b, b < s.heap.objs.size → H' b = H b) (p2 : ∀ b o, H' b = some o → H b = some o ∨ ObjOk X.prog X.w H' h' b o) : Inv X pins σ H' { s with heap := h', toks := t' } := by
  have up : ∀ b o, H b = some o → H' b = some o := fun b o e => by rw [p1 b (I.hok b o e).lt]; exact e
  refine I.un ⟨fun b u q _ _ _ => k b u q, fun b u q _ _ _ => ⟨u.slots, k b u q⟩, fun b u q n _ => by rw [p1 b (Heap.lt_size q)]; exact n, fun b u q _ => ⟨u, k b u q⟩, fun b xs q => up b _ q, fun b u xs q => up b _ q, fun b ps q => ⟨#[], by rw [up b _ q]; simp⟩⟩ fun b o e => ?_
  rcases p2 b o e with q | q
  · exact (I.hok b o q).stay (fun c v _ q => k c v q) (fun c q => up c _ q) fun c xs q => up c _ q
  · exact q

def z3 : List V → List V → List V → List (List V)
  | x :: xs, y :: ys, z :: zs => [x, y, z] :: z3 xs ys zs
  | _, _, _ => []
theorem z3_len : ∀ (xs ys zs : List V), (z3 xs ys zs).length = min (min xs.length ys.length) zs.length
  | [], _, _ => by simp [z3]
  | _ :: _, [], _ => by simp [z3]
  | _ :: _, _ :: _, [] => by simp [z3]
  | x :: xs, y :: ys, z :: zs => by have := z3_len xs ys zs; simp [z3]; omega
theorem z3_get : ∀ {xs ys zs : List V} {i : Nat} {t : List V}, (z3 xs ys zs)[i]? = some t → ∃ x y z, xs[i]? = some x ∧ ys[i]? = some y ∧ zs[i]? = some z ∧ t = [x, y, z]
  | [], _, _, _, _, h => by simp [z3] at h
  | _ :: _, [], _, _, _, h => by simp [z3] at h
  | _ :: _, _ :: _, [], _, _, h => by simp [z3] at h
  | x :: xs, y :: ys, z :: zs, 0, t, h => by simp [z3] at h; exact ⟨x, y, z, rfl, rfl, rfl, h.symm⟩
  | x :: xs, y :: ys, z :: zs, i + 1, t, h => by
    obtain ⟨a, b, c, h1, h2, h3, h4⟩ := z3_get (xs := xs) (ys := ys) (zs := zs) (i := i) (t := t) (by simpa [z3] using h)
    exact ⟨a, b, c, by simpa using h1, by simpa using h2, by simpa using h3, h4⟩
def adr : Value → Addr
  | .ref a => a
  | _ => 0
def zL (acc : List Value) (ts : List (List V)) : List (Addr × HO) := List.zipWith (fun v t => (adr v, HO.tup t)) acc ts
theorem zL_vals : ∀ {acc : List Value} {ts : List (List V)}, acc.length = ts.length → (∀ v ∈ acc, ∃ T, v = Value.ref T) → Vals ((zL acc ts).map fun p => V.ref p.1) acc
  | [], [], _, _ => .nil
  | [], _ :: _, h, _ => by cases h
  | _ :: _, [], h, _ => by cases h
  | v :: acc, t :: ts, h, hv => by
    obtain ⟨T, rfl⟩ := hv v List.mem_cons_self
    exact .cons rfl (zL_vals (Nat.succ.inj h) fun v h => hv v (List.mem_cons_of_mem _ h))
theorem zL_tups : ∀ {acc : List Value} {ts : List (List V)}, acc.length = ts.length → (zL acc ts).map (·.2) = ts.map HO.tup
  | [], [], _ => rfl
  | [], _ :: _, h => by cases h
  | _ :: _, [], h => by cases h
  | v :: acc, t :: ts, h => by
    show _ :: (zL acc ts).map (·.2) = _ :: ts.map HO.tup
    rw [zL_tups (Nat.succ.inj h)]
def tTupZ3 (K : PySem.W.Frag) (ta : TA) : TE := fun σ H Q => ta σ H fun vs H1 => ∃ (a b c : Addr) (xs ys zs : List V), vs = [.ref a, .ref b, .ref c] ∧ SqT K H1 a xs ∧ SqT K H1 b ys ∧ SqT K H1 c zs ∧
  ∀ (L : List (Addr × HO)) (q : Addr), L.map (·.2) = (z3 xs ys zs).map .tup → Chain H1 L → laysF H1 L q = none → Q (.ref q) (upd (laysF H1 L) q (.tup (L.map fun p => .ref p.1)))
section
variable {X : Cx}
theorem pe_tupZip3 {e1 e2 e3 : Expr} {ta : TA} {p p2 pos pos2 : Pos} (hc : X.calm = true) (hg : Gl X "tuple") (hm : X.mg "tuple" = none) (hg2 : Gl X "zip") (hm2 : X.mg "zip" = none) (ha : PA X [e1, e2, e3] ta)
    (hs : starEach [e1, e2, e3] X.env = (false, eval e1 X.env) :: starEach [e2, e3] X.env := by rfl) (hpl : (backTo pos2 (starEach [e2, e3] X.env)).any (·.1) = false := by rfl)
    (hs2 : starEach [.Call (.Name "zip" p2) [e1, e2, e3] [] pos2] X.env = (false, eval (.Call (.Name "zip" p2) [e1, e2, e3] [] pos2) X.env) :: starEach [] X.env := by rfl) :
    PE X (.Call (.Name "tuple" p) [.Call (.Name "zip" p2) [e1, e2, e3] [] pos2] [] pos) (tTupZ3 X.K ta) := by
  refine ⟨fun pins s σ H Q I h => ?_⟩
  refine Call_ (ld_blt I hg hm boot_tuple (PyProof.Rows.callWith_type1 (args_cons (Call_ (ld_blt I hg2 hm2 PyProof.Rows.boot_zip (PyProof.Rows.callWith_type1 (thn (ha.run pos2 pins s σ H _ I h) fun us s1 ⟨vs, H1, I1, r1, q1⟩ => ?_) hs hpl))) hs2) hs2 rfl))
  obtain ⟨a, b, c, xs, ys, zs, ev, hx, hy, hz, q1⟩ := q1
  subst ev
  cases r1 with
  | cons ra rr =>
  cases rr with
  | cons rb rr =>
  cases rr with
  | cons rc rr =>
  cases rr
  cases ra
  cases rb
  cases rc
  obtain ⟨i1, v1, t1, l1⟩ := I1.tuple hx
  obtain ⟨i2, v2, t2, l2⟩ := I1.tuple hy
  obtain ⟨i3, v3, t3, l3⟩ := I1.tuple hz
  have m1 : a < s1.heap.objs.size := t1.lt
  have m2 : b < s1.heap.objs.size := t2.lt
  have m3 : c < s1.heap.objs.size := t3.lt
  refine zip_begins3 (begins_tuple a i1.toArray) (begins_tuple b i2.toArray) (begins_tuple c i3.toArray) t1 t2 t3 fun h1 hZ hTI hTO g1 g2 g3 hsz hk => args_nil ?_
  have N := s1.heap.objs.size
  have hsep := zip_sep3 (N := s1.heap.objs.size) (fp1 := [a]) (fp2 := [b]) (fp3 := [c]) (fun x hx => by rw [List.mem_singleton.mp hx]; exact m1) (fun x hx => by rw [List.mem_singleton.mp hx]; exact m2) (fun x hx => by rw [List.mem_singleton.mp hx]; exact m3)
  have lt1 : ∀ k, k < 6 → s1.heap.objs.size + k < h1.objs.size := fun k hk => by rw [hsz]; omega
  have lt0 : ∀ x, x < s1.heap.objs.size → x < h1.objs.size := fun x hx => by rw [hsz]; omega
  have tI : ∀ (s' : Shared), (∀ b o, h1.get? b = some o → s'.heap.get? b = some o) → IsZip s'.heap (s1.heap.objs.size + 5) (s1.heap.objs.size + 3) (s1.heap.objs.size + 4) .none := fun s' k => k _ _ hZ
  have ni : ∀ {x : Addr}, x < s1.heap.objs.size → ∀ k, x ≠ s1.heap.objs.size + k := fun hx k => Nat.ne_of_lt (Nat.lt_of_lt_of_le hx (Nat.le_add_right _ _))
  have hS : s1.heap.objs.size + 5 < h1.objs.size ∧ s1.heap.objs.size + 3 < h1.objs.size ∧ s1.heap.objs.size + 4 < h1.objs.size ∧ s1.heap.objs.size < h1.objs.size ∧ s1.heap.objs.size + 1 < h1.objs.size ∧ s1.heap.objs.size + 2 < h1.objs.size ∧ a < h1.objs.size ∧ b < h1.objs.size ∧ c < h1.objs.size :=
    ⟨lt1 5 (by omega), lt1 3 (by omega), lt1 4 (by omega), by rw [hsz]; exact Nat.lt_add_of_pos_right (by omega), lt1 1 (by omega), lt1 2 (by omega), lt0 _ m1, lt0 _ m2, lt0 _ m3⟩
  have W := z3_walk (prog := X.prog) (w := X.w) (A := X.A.in1.in1.in1) (z := s1.heap.objs.size + 5) (TI := s1.heap.objs.size + 3) (TO := s1.heap.objs.size + 4) (i1 := s1.heap.objs.size) (i2 := s1.heap.objs.size + 1) (i3 := s1.heap.objs.size + 2) (S := h1.objs.size) (a := a) (b := b) (c := c) (xs := i1.toArray) (ys := i2.toArray) (zs := i3.toArray) (I1.ok.hd hc) hsep (Nat.ne_of_lt m1) (ni m2 1) (ni m3 2) hS
  have hn : min (min i1.toArray.size i2.toArray.size) i3.toArray.size ≤ sizeLine := by
    have := v1.length
    have e1 : i1.toArray.size = i1.length := List.size_toArray
    omega
  refine call_tupleA (s := { s1 with heap := h1 }) W (fun s' k => ⟨_, tI s' k, rfl⟩) (fun s' k A E Q q => wpAny_pyIter_zip (tI s' k) q) (Nat.ne_of_gt (lt1 5 (by omega))) (fun h' tk k hs' => ?_) hn fun h' tk acc hk' hsa fi => ?_
  · refine ⟨rfl, ?_, k _ _ hTI, ⟨⟨_, k _ _ g1, rfl, rfl⟩, ?_⟩, ⟨⟨_, k _ _ g2, rfl, rfl⟩, ?_⟩, ⟨⟨_, k _ _ g3, rfl, rfl⟩, ?_⟩, .inl ⟨rfl, k _ _ hZ, _, _, _, k _ _ hTO⟩, fun j v hj => by simp at hj, fun j k T hj => by simp at hj⟩
    · show h1.objs.size < h'.objs.size; rw [hs']; exact Nat.lt_succ_self _
    · exact IsTup.keeps t1 fun b o e => k _ _ (hk b o e)
    · exact IsTup.keeps t2 fun b o e => k _ _ (hk b o e)
    · exact IsTup.keeps t3 fun b o e => k _ _ (hk b o e)
  obtain ⟨f1, f2⟩ := fi
  have keep : ∀ b o, s1.heap.get? b = some o → (h'.push { cls := .type "tuple", data := .seq acc }).get? b = some o := fun b o e => by
    refine Heap.get?_push_of_some _ (hk' b o (fun z => ?_) (hk b o e))
    have hb : b < s1.heap.objs.size := Heap.lt_size e
    simp only [List.mem_cons, List.not_mem_nil, or_false] at z
    rcases z with z | z | z | z | z
    · exact ni hb 5 z
    · exact ni hb 4 z
    · exact ni hb 0 z
    · exact ni hb 1 z
    · exact ni hb 2 z
  have hlen : acc.toList.length = (z3 xs ys zs).length := by
    rw [z3_len, Array.length_toList, hsa, v1.length, v2.length, v3.length, List.size_toArray, List.size_toArray, List.size_toArray]
  have big : s1.heap.objs.size ≤ h'.objs.size := by
    have ne : ∀ (n k : Nat), k ≠ 3 → n + 3 ≠ n + k := fun n k h => by omega
    refine Nat.le_of_lt (Nat.lt_of_le_of_lt (Nat.le_add_right _ 3) (Heap.lt_size (hk' (s1.heap.objs.size + 3) _ (fun z => ?_) hTI)))
    simp only [List.mem_cons, List.not_mem_nil, or_false] at z
    rcases z with z | z | z | z | z
    · exact ne _ 5 (by decide) z
    · exact ne _ 4 (by decide) z
    · exact ne _ 0 (by decide) z
    · exact ne _ 1 (by decide) z
    · exact ne _ 2 (by decide) z
  -- the list of what was laid
  have at_ : ∀ (j : Nat) p, (zL acc.toList (z3 xs ys zs))[j]? = some p → ∃ (T : Addr) (x y u : V), acc[j]? = some (Value.ref T) ∧ p = (T, .tup [x, y, u]) ∧ h1.objs.size < T ∧ ∃ its, Vals [x, y, u] its ∧ IsTup h' T its.toArray := by
    intro j p hj
    unfold zL at hj
    rw [List.getElem?_zipWith] at hj
    split at hj
    · rename_i v t hv ht
      cases hj
      obtain ⟨x, y, u, e1, e2, e3, rfl⟩ := z3_get ht
      obtain ⟨T, x', y', u', rfl, hlt, d1, d2, d3, hT⟩ := f1 j v (by rw [← Array.getElem?_toList]; exact hv)
      obtain ⟨w1, c1, r1⟩ := v1.get e1
      obtain ⟨w2, c2, r2⟩ := v2.get e2
      obtain ⟨w3, c3, r3⟩ := v3.get e3
      rw [List.getElem?_toArray] at d1 d2 d3
      rw [c1] at d1; cases d1
      rw [c2] at d2; cases d2
      rw [c3] at d3; cases d3
      exact ⟨T, x, y, u, by rw [← Array.getElem?_toList]; exact hv, rfl, hlt, _, .cons r1 (.cons r2 (.cons r3 .nil)), ⟨_, hT, rfl, _, rfl⟩⟩
    · cases hj
  have mem : ∀ p ∈ zL acc.toList (z3 xs ys zs), ∃ (j : Nat) (T : Addr) (x y u : V), acc[j]? = some (Value.ref T) ∧ p = (T, .tup [x, y, u]) ∧ h1.objs.size < T ∧ ∃ its, Vals [x, y, u] its ∧ IsTup h' T its.toArray := fun p hp =>
    let ⟨j, hj⟩ := List.mem_iff_getElem?.mp hp
    ⟨j, at_ j p hj⟩
  have nd : ((zL acc.toList (z3 xs ys zs)).map (·.1)).Nodup := by
    rw [List.Nodup, List.pairwise_iff_getElem]
    intro i j hi hj hij e
    rw [List.length_map] at hi hj
    rw [List.getElem_map, List.getElem_map] at e
    obtain ⟨T, _, _, _, a1, e1, _⟩ := at_ i _ (List.getElem?_eq_getElem hi)
    obtain ⟨T', _, _, _, a2, e2, _⟩ := at_ j _ (List.getElem?_eq_getElem hj)
    rw [e1, e2] at e
    obtain rfl : T = T' := e
    have := f2 i j T a1 a2
    omega
  have fresh : ∀ p ∈ zL acc.toList (z3 xs ys zs), s1.heap.objs.size ≤ p.1 := fun p hp => by
    obtain ⟨j, T, x, y, u, _, rfl, hlt, _⟩ := mem p hp
    exact Nat.le_of_lt (Nat.lt_trans (by rw [hsz]; exact Nat.lt_add_of_pos_right (by omega)) hlt)
  have hch : Chain H1 (zL acc.toList (z3 xs ys zs)) := chain_of nd fun p hp => I1.hok.fresh (fresh p hp)
  have qout : ∀ p ∈ zL acc.toList (z3 xs ys zs), p.1 ≠ h'.objs.size := fun p hp => by
    obtain ⟨j, T, x, y, u, _, rfl, hlt, its, _, hT⟩ := mem p hp
    exact Nat.ne_of_lt hT.lt
  have qn : laysF H1 (zL acc.toList (z3 xs ys zs)) h'.objs.size = none := by rw [laysF_out qout]; exact I1.hok.fresh big
  have all_ref : ∀ v ∈ acc.toList, ∃ T, v = Value.ref T := fun v hv => by
    obtain ⟨j, hj⟩ := List.mem_iff_getElem?.mp hv
    obtain ⟨T, x, y, u, e, _⟩ := f1 j v (by rw [← Array.getElem?_toList]; exact hj)
    exact ⟨T, e⟩
  refine ⟨.ref h'.objs.size, upd (laysF H1 (zL acc.toList (z3 xs ys zs))) h'.objs.size (.tup ((zL acc.toList (z3 xs ys zs)).map fun p => .ref p.1)), ?_, rfl, q1 _ _ ?_ hch qn⟩
  · have := inv_ext (H' := upd (laysF H1 (zL acc.toList (z3 xs ys zs))) h'.objs.size (.tup ((zL acc.toList (z3 xs ys zs)).map fun p => .ref p.1))) (t' := tk) I1 keep ?_ ?_
    · exact this
    · intro b hb
      rw [upd_ne (Nat.ne_of_lt (Nat.lt_of_lt_of_le hb big)), laysF_out fun p hp => Nat.ne_of_gt (Nat.lt_of_lt_of_le hb (fresh p hp))]
    · intro b o e
      by_cases hb : b = h'.objs.size
      · subst hb
        rw [upd_same] at e
        cases e
        refine .inr ⟨?_, acc.toList, zL_vals hlen all_ref, ⟨_, Heap.get?_push_size _ rfl, rfl, 0, by rw [Array.toArray_toList]⟩⟩
        rw [List.length_map]
        unfold zL
        rw [List.length_zipWith, ← hlen, Nat.min_self, Array.length_toList, hsa]
        exact hn
      · rw [upd_ne hb] at e
        rcases laysF_in e with e | e
        · exact .inl e
        · obtain ⟨j, T, x, y, u, _, ep, hlt, its, hv, hT⟩ := mem _ e
          cases ep
          exact .inr ⟨show 3 ≤ sizeLine by size_fits, its, hv, hT.keeps fun b o e => Heap.get?_push_of_some _ e⟩
  · exact zL_tups hlen
end
end Fs

set_option Elab.async false
set_option linter.all false
set_option maxRecDepth 100000
set_option maxHeartbeats 2000000
set_option autoImplicit false
namespace Fs
open PySem PySem.Spec PyProof.Rows L2

def zip3 : List D → List D → List D → List D
  | x :: xs, y :: ys, z :: zs => .tuple [x, y, z] :: zip3 xs ys zs
  | _, _, _ => []
def dZip3 (fs : DEs) : DE := fun env => (fs env).bind fun ds => match ds with
  | [.tuple a, .tuple b, .tuple c] => .ret (.tuple (zip3 a b c))
  | _ => .bad
theorem lays_ok {K : PySem.W.Frag} {dr : Dr} : ∀ {L : List (Addr × HO)} {ds : List D} {F H : Hp}, Stt dr F H → Chain H L → Paired (fun (p : Addr × HO) (d : D) => ∃ vs es, p.2 = .tup vs ∧ DpAll K F vs es ∧ d = .tuple es) L ds →
    ∃ F', Fs.Step dr F H F' (laysF H L) ∧ Stt dr F' (laysF H L) ∧ DpAll K F' (L.map fun p => V.ref p.1) ds
  | [], _, F, H, s, _, .nil => ⟨F, .refl, s, .nil⟩
  | p :: L, _, F, H, s, c, .cons (b := d) ⟨vs, es, e, da, ed⟩ rest => by
    obtain ⟨S1, T1⟩ := lay s c.1 p.2
    obtain ⟨F', S2, T2, dd⟩ := lays_ok T1 c.2 (L2.Paired.mapP rest fun q d ⟨vs, es, e, da, ed⟩ => ⟨vs, es, e, dpa_up S1.up _ _ da, ed⟩)
    refine ⟨F', S1.trans S2 T2, T2, .cons ?_ dd⟩
    subst ed
    exact .tup (.inl (.inl (S2.up _ _ (by rw [← e]; exact upd_same)))) (dpa_up (S1.trans S2 T2).up _ _ da)
theorem z3_pair {K : PySem.W.Frag} {F : Hp} : ∀ {xs ys zs : List V} {as bs cs : List D} {L : List (Addr × HO)}, DpAll K F xs as → DpAll K F ys bs → DpAll K F zs cs → L.map (·.2) = (z3 xs ys zs).map HO.tup →
    Paired (fun (p : Addr × HO) (d : D) => ∃ vs es, p.2 = .tup vs ∧ DpAll K F vs es ∧ d = .tuple es) L (zip3 as bs cs) := by
  intro xs
  induction xs with
  | nil => intro ys zs as bs cs L h1 h2 h3 e; cases h1; simp [z3] at e; subst e; simp [zip3]; exact .nil
  | cons x xs ih =>
    intro ys zs as bs cs L h1 h2 h3 e
    cases h1 with
    | cons a1 h1 =>
      cases h2 with
      | nil => simp [z3] at e; subst e; simp [zip3]; exact .nil
      | cons a2 h2 =>
        cases h3 with
        | nil => simp [z3] at e; subst e; simp [zip3]; exact .nil
        | cons a3 h3 =>
          cases L with
          | nil => simp [z3] at e
          | cons p L =>
            simp only [z3, List.map_cons, List.cons.injEq] at e
            exact .cons ⟨_, _, e.1, .cons a1 (.cons a2 (.cons a3 .nil)), rfl⟩ (ih h1 h2 h3 e.2)
section
variable {X : Cx} {fs : DEs}
theorem e_zip3t {e1 e2 e3 : Expr} {p p2 pos pos2 : Pos} (hc : X.calm = true) (hg : Gl X "tuple") (hm : X.mg "tuple" = none) (hg2 : Gl X "zip") (hm2 : X.mg "zip" = none) (ha : PA X [e1, e2, e3] (tA X.K fs))
    (hs : starEach [e1, e2, e3] X.env = (false, eval e1 X.env) :: starEach [e2, e3] X.env := by rfl) (hpl : (backTo pos2 (starEach [e2, e3] X.env)).any (·.1) = false := by rfl)
    (hs2 : starEach [.Call (.Name "zip" p2) [e1, e2, e3] [] pos2] X.env = (false, eval (.Call (.Name "zip" p2) [e1, e2, e3] [] pos2) X.env) :: starEach [] X.env := by rfl) :
    PE X (.Call (.Name "tuple" p) [.Call (.Name "zip" p2) [e1, e2, e3] [] pos2] [] pos) (tE X.K (dZip3 fs)) :=
  pe_imp (pe_tupZip3 hc hg hm hg2 hm2 ha hs hpl hs2) fun σ H Q ⟨dr, B, F, env, s, r, q⟩ => ⟨dr, B, F, env, s, r, Cm.All.mono (by
    intro ds k vs F' H' S' T' rv
    split at k
    · cases rv with
      | cons r1 rv =>
      cases rv with
      | cons r2 rv =>
      cases rv with
      | cons r3 rv =>
      cases rv
      obtain ⟨p1, v1, rfl, h1, h1'⟩ := bp_tup (.r (H := H') r1)
      obtain ⟨p2, v2, rfl, h2, h2'⟩ := bp_tup (.r (H := H') r2)
      obtain ⟨p3, v3, rfl, h3, h3'⟩ := bp_tup (.r (H := H') r3)
      refine ⟨p1, p2, p3, v1, v2, v3, rfl, sqt_up T'.sub h1, sqt_up T'.sub h2, sqt_up T'.sub h3, fun L q e ch qn => ?_⟩
      obtain ⟨F2, S2, T2, dd⟩ := lays_ok T' ch (z3_pair h1' h2' h3' e)
      obtain ⟨S3, T3⟩ := lay T2 qn (.tup (L.map fun p => .ref p.1))
      exact k _ _ _ ((S'.trans S2 T2).trans S3 T3) T3 (.dp (.tup (.inl (.inl upd_same)) (dpa_up S3.up _ _ dd)))
    · exact k.elim) (Cm.all_bind.mp q)⟩
end
end Fs

set_option Elab.async false
set_option linter.all false
set_option maxRecDepth 100000
set_option maxHeartbeats 2000000
set_option autoImplicit false
namespace Fs
open PySem PySem.Spec PyProof.Rows L2

/-! ### the module's constants -/
def intsOf : List Value → Option (List Int)
  | [] => some []
  | .int i _ :: r => (intsOf r).map (i :: ·)
  | _ => none
theorem intsOf_vals : ∀ {us : List Value} {ns : List Int}, intsOf us = some ns → Vals (ns.map V.int) us
  | [], ns, h => by cases h; exact .nil
  | .int i t :: r, ns, h => by
    unfold intsOf at h
    cases q : intsOf r with
    | none => rw [q] at h; cases h
    | some ms => rw [q] at h; cases h; exact .cons ⟨t, rfl⟩ (intsOf_vals q)
theorem cst_int {K : PySem.W.Frag} {mg : Str → Option Value} {x : Str} {i : Int} {t : Tok} (m : mg x = some (.int i t)) : CstAt K mg x (.int i) := ⟨.int i, _, m, ⟨t, rfl⟩, fun F => .int i⟩
theorem cst_tupI {K : PySem.W.Frag} {mg : Str → Option Value} {x : Str} {a : Addr} {od : Option Addr} {its : Array Value} {n : Nat} {sl : Array (Option Value)} {ns : List Int} (m : mg x = some (.ref a)) (l : K.lookup a = some ⟨.type "tuple", od, .seq its n, sl⟩) (h : intsOf its.toList = some ns)
    (hl : ns.length ≤ 1000 := by decide) : CstAt K mg x (.tuple (ns.map .int)) :=
  have v := intsOf_vals h
  ⟨.ref a, _, m, rfl, fun F => .tup (.inr ⟨_, its, n, l, rfl, rfl, by
    have h2 : its.size = ns.length := by have := v.length; simpa using this.symm
    rw [h2]
    exact Nat.le_trans hl (by decide), v⟩) (ints_dpa ns)⟩
/-- loops by a condition: at most so many rounds are told of -/
def FUEL : Nat := 1000000
/-- what a law promises -/
def spLaw (K : PySem.W.Frag) : Sp := fun vs H Q _ => ∃ (a : Addr) (ns : List Int), vs = [.ref a] ∧ SqL K H a (ns.map V.int) ∧ ns.length ≤ 63 ∧ ∀ H', Q (.bl true) H'
def onlyAt (H : Hp) (a : Addr) : Hp := fun b => if b = a then H b else none
theorem onlyAt_self (H : Hp) (a : Addr) : onlyAt H a a = H a := if_pos rfl
theorem onlyAt_le {H : Hp} {a b : Addr} {o : HO} (e : onlyAt H a b = some o) : H b = some o := by
  unfold onlyAt at e
  split at e
  · exact e
  · cases e
theorem onlyAt_none {H : Hp} {a b : Addr} (e : H b = none) : onlyAt H a b = none := by
  unfold onlyAt
  split
  · exact e
  · rfl
theorem law_start {K : PySem.W.Frag} {N : List Str} {H H' : Hp} {dr : Dr} {a : Addr} {ns : List Int} {D : Ends} {s : DS} {k : Nat} (hS : SqL K H a (ns.map V.int)) (q : ∀ H', D.rt (.bl true) H') (hN : N.length = k + 2)
    (kp : Kept H H') (dk : DrawOk dr H') (na : H dr.a = none) (nl : H dr.l = none) (nc : H dr.c = none)
    (math : (s ([.val (.list (ns.map .int)), .val drwT] ++ List.replicate k .no)).All (fun o => o = .rt (.bool true))) :
    tS K s D ((L2.start N [V.ref a]).set 1 (some (V.ref dr.a))) H' := by
  have T : Stt dr (onlyAt H a) H' := by
    refine ⟨fun b o e => kp _ _ (onlyAt_le e), dk, fun b hb => onlyAt_none ?_⟩
    rcases hb with rfl | rfl | rfl
    · exact na
    · exact nl
    · exact nc
  have hSF : SqL K (onlyAt H a) a (ns.map V.int) := by
    rcases hS with h | h
    · refine .inl ?_
      rcases h with h | ⟨o, h⟩
      · exact .inl ((onlyAt_self H a).trans h)
      · exact .inr ⟨o, (onlyAt_self H a).trans h⟩
    · exact .inr h
  have ev : (L2.start N [V.ref a]).set 1 (some (V.ref dr.a)) = L2.start N [V.ref a, V.ref dr.a] := by
    show (some (V.ref a) :: List.replicate (N.length - 1) none).set 1 _ = some (V.ref a) :: some (V.ref dr.a) :: List.replicate (N.length - 2) none
    rw [hN]
    show some (V.ref a) :: (List.replicate (k + 1) none).set 0 _ = _
    rfl
  have es : ([.val (.list (ns.map .int)), .val drwT] ++ List.replicate k .no : Fs.Env) = sEnv N.length [.list (ns.map .int), drwT] := by
    unfold sEnv
    rw [hN]
    rfl
  rw [es] at math
  rw [ev]
  refine ⟨dr, _, H', _, _, T, .refl, rs_start (.cons (.dp (.lst hSF (ints_dpa ns))) (.cons .drw .nil)), math.mono fun o e => ?_⟩
  subst e
  intro v F1 H1 _ _ r
  cases r with
  | dp r => cases r; exact q H1
end Fs

set_option Elab.async false
set_option linter.all false
set_option maxRecDepth 100000
set_option maxHeartbeats 2000000
set_option autoImplicit false
namespace Fs
open PySem PySem.Spec PyProof.Rows L2

/-! ### the greatest, the least of a list's data -/
def isNone : D → Bool
  | .none => true
  | _ => false
def alikeB (ds : List D) : Bool := (ds.all fun d => ds.all fun e => PySem.W.alike d e) && ds.all fun d => !isNone d
theorem alikeB_of {ds : List D} (h : alikeB ds = true) : PySem.W.AlikeAll ds := by
  unfold alikeB at h
  rw [Bool.and_eq_true, List.all_eq_true, List.all_eq_true] at h
  refine ⟨fun x hx y hy => ?_, fun x hx e => ?_⟩
  · have := h.1 x hx
    rw [List.all_eq_true] at this
    exact this y hy
  · have := h.2 x hx
    rw [e] at this
    cases this
def cMaxL : List D → Cm D
  | [.list (x :: xs)] => if SeqAt.shaped (.list (x :: xs)) = true ∧ alikeB (x :: xs) = true then .ret (PySem.W.maxD x xs) else .bad
  | _ => .bad
def cMinL : List D → Cm D
  | [.list (x :: xs)] => if SeqAt.shaped (.list (x :: xs)) = true ∧ alikeB (x :: xs) = true then .ret (PySem.W.minD x xs) else .bad
  | _ => .bad
section
variable {X : Cx}
theorem depth_all {ds : List D} (h : SeqAt.shaped (.list ds) = true) : PyData.depthAll ds ≤ 63 := by
  have := SeqAt.depth_of_shaped h
  rw [PyData.depth] at this
  omega
theorem canL_all {ds : List D} (h : SeqAt.shaped (.list ds) = true) : PyData.canLayAll0 ds = true := by
  have := SeqAt.canLay_of_shaped h
  rwa [PyData.canLay0] at this
theorem canL_at {ds : List D} {d : D} (h : PyData.canLayAll0 ds = true) (m : d ∈ ds) : d.canLay0 = true := by
  induction ds with
  | nil => cases m
  | cons x xs ih =>
    rw [PyData.canLayAll0, Bool.and_eq_true] at h
    rcases List.mem_cons.mp m with rfl | m
    · exact h.1
    · exact ih h.2 m
/-- a value found again: what it reads as is the datum -/
theorem found_at {pins : List (Addr × Obj)} {σ : L2.St} {s : Shared} {F H : Hp} {dr : Dr} (I : Inv X pins σ H s) (T : Stt dr F H) {ds : List D} {vs : List V} {its : List Value} (h2 : DpAll X.K F vs ds) (rv : Vals vs its) (hl : PyData.canLayAll0 ds = true)
    {i : Nat} {v : Value} (hv : its[i]? = some v) {h' : Heap} (k : ∀ b o, s.heap.get? b = some o → h'.get? b = some o) {d : D} {bs : List Addr} (r : Reads h' v d bs) : ∃ x, RelV x v ∧ Dp X.K F x d := by
  have hlen := rv.length
  have hlen2 := dpa_len h2
  have hi : i < its.length := (List.getElem?_eq_some_iff.mp hv).1
  obtain ⟨u, hu, ru⟩ := rv.get (List.getElem?_eq_getElem (by omega : i < vs.length))
  rw [hv] at hu
  cases hu
  obtain ⟨e, he, de⟩ := dpa_getV h2 (List.getElem?_eq_getElem (by omega : i < vs.length))
  obtain ⟨as, r2⟩ := Dp.reads I e _ _ (dp_up T.sub _ _ de) ru
  have := SeqAt.Reads.unique e d v _ _ (canL_at hl (List.mem_of_getElem? he)) (PySem.W.reads_keeps k r2) r
  subst this
  exact ⟨_, ru, de⟩
theorem k_max1 (hc : X.calm = true) (hu : X.A.units + 65 < cLine) : CallR X (.builtin "max") (rDs X.K cMaxL) := by
  intro pins s σ H xs us Q I rx h
  obtain ⟨dr, F, ds, T, bx, q⟩ := h
  unfold cMaxL at q
  split at q
  · rename_i x xs
    split at q
    · rename_i hc2
      cases bx with
      | cons b1 bx =>
        cases bx
        obtain ⟨p, vs, rfl, h1, h2⟩ := bp_list T b1
        obtain ⟨u, rfl, ru⟩ := vals1 rx
        obtain rfl : u = Value.ref p := ru
        obtain ⟨its, rv, hl, hz⟩ := I.list h1
        have hd := depth_all hc2.1
        obtain ⟨as, hr⟩ := Dp.readsAll I _ _ its (dpa_up T.sub _ _ h2) rv
        refine PySem.W.max_list_data (I.ok.hd hc) hl.isList (by rw [List.toList_toArray]; exact hr) (alikeB_of hc2.2) (by omega) fun i v h' tk bs hv r k => ?_
        obtain ⟨y, ry, dy⟩ := found_at I T h2 rv (canL_all hc2.1) (by simpa using hv) k r
        exact ⟨y, H, I.kept (t' := tk) k, ry, q _ F H .refl T (.dp dy)⟩
    · exact q.elim
  · exact q.elim
theorem k_min1 (hc : X.calm = true) (hu : X.A.units + 65 < cLine) : CallR X (.builtin "min") (rDs X.K cMinL) := by
  intro pins s σ H xs us Q I rx h
  obtain ⟨dr, F, ds, T, bx, q⟩ := h
  unfold cMinL at q
  split at q
  · rename_i x xs
    split at q
    · rename_i hc2
      cases bx with
      | cons b1 bx =>
        cases bx
        obtain ⟨p, vs, rfl, h1, h2⟩ := bp_list T b1
        obtain ⟨u, rfl, ru⟩ := vals1 rx
        obtain rfl : u = Value.ref p := ru
        obtain ⟨its, rv, hl, hz⟩ := I.list h1
        have hd := depth_all hc2.1
        obtain ⟨as, hr⟩ := Dp.readsAll I _ _ its (dpa_up T.sub _ _ h2) rv
        refine PySem.W.min_list_data (I.ok.hd hc) hl.isList (by rw [List.toList_toArray]; exact hr) (alikeB_of hc2.2) (by omega) fun i v h' tk bs hv r k => ?_
        obtain ⟨y, ry, dy⟩ := found_at I T h2 rv (canL_all hc2.1) (by simpa using hv) k r
        exact ⟨y, H, I.kept (t' := tk) k, ry, q _ F H .refl T (.dp dy)⟩
    · exact q.elim
  · exact q.elim
end
end Fs

set_option Elab.async false
set_option linter.all false
set_option maxRecDepth 100000
set_option maxHeartbeats 2000000
set_option autoImplicit false
namespace Fs
open PySem PySem.Spec PyProof.Rows L2

/-! ### sorted(list of data) -/
def leD (x y : D) : Bool := PySem.W.dataLe false (fun z : D => z) x y
def sortB (ds : List D) : Bool := (ds.all fun d => match d with | .tuple (_ :: _) => true | _ => false) || ds.all fun d => match d with | .none => false | .tuple _ => false | _ => true
def cSortL : List D → Cm D
  | [.list ds] => if SeqAt.shaped (.list ds) = true ∧ alikeB ds = true ∧ sortB ds = true then .ret (.list (ds.mergeSort leD)) else .bad
  | _ => .bad
theorem sortB_of {ds : List D} (h : sortB ds = true) : PySem.W.Sortable ds := by
  unfold sortB at h
  rw [Bool.or_eq_true, List.all_eq_true, List.all_eq_true] at h
  rcases h with h | h
  · refine .inl fun d hd => ?_
    have := h d hd
    split at this
    · exact ⟨_, _, rfl⟩
    · cases this
  · refine .inr fun d hd => ?_
    have := h d hd
    split at this
    · cases this
    · cases this
    · rename_i n1 n2
      exact ⟨fun e => n1 e, fun xs e => n2 xs e⟩
theorem depth_le {ds : List D} {d : D} (m : d ∈ ds) : d.depth ≤ PyData.depthAll ds := by
  induction ds with
  | nil => cases m
  | cons x xs ih =>
    rw [PyData.depthAll]
    rcases List.mem_cons.mp m with rfl | m
    · exact Nat.le_max_left _ _
    · exact Nat.le_trans (ih m) (Nat.le_max_right _ _)
theorem each_zip {K : PySem.W.Frag} {F : Hp} : ∀ {vs : List V} {ds : List D} {its : List Value}, DpAll K F vs ds → Vals vs its → PySem.W.EachIs (fun (v : Value) (b : V × D) => RelV b.1 v ∧ Dp K F b.1 b.2) its (vs.zip ds)
  | _, _, _, .nil, .nil => .nil
  | _, _, _, .cons a r, .cons b t => .cons ⟨b, a⟩ (each_zip r t)
theorem each_fst {R : Value → V × D → Prop} : ∀ {out : List Value} {bs : List (V × D)}, (∀ v b, R v b → RelV b.1 v) → PySem.W.EachIs R out bs → Vals (bs.map (·.1)) out
  | _, _, _, .nil => .nil
  | _, _, h, .cons r t => .cons (h _ _ r) (each_fst h t)
theorem each_dpa {K : PySem.W.Frag} {F : Hp} : ∀ {out : List Value} {bs : List (V × D)}, PySem.W.EachIs (fun (v : Value) (b : V × D) => RelV b.1 v ∧ Dp K F b.1 b.2) out bs → DpAll K F (bs.map (·.1)) (bs.map (·.2))
  | _, _, .nil => .nil
  | _, _, .cons r t => .cons r.2 (each_dpa t)
section
variable {X : Cx}
theorem k_sort1 (hu : X.A.units + 65 < cLine) : CallR X (.builtin "sorted") (rDs X.K cSortL) := by
  intro pins s σ H xs us Q I rx h
  obtain ⟨dr, F, ds, T, bx, q⟩ := h
  unfold cSortL at q
  split at q
  · rename_i ds
    split at q
    · rename_i hc
      cases bx with
      | cons b1 bx =>
        cases bx
        obtain ⟨p, vs, rfl, h1, h2⟩ := bp_list T b1
        obtain ⟨u, rfl, ru⟩ := vals1 rx
        obtain rfl : u = Value.ref p := ru
        obtain ⟨its, rv, hl, hz⟩ := I.list h1
        have hd := depth_all hc.1
        have hlv := dpa_len h2
        have hsnd : (vs.zip ds).map (·.2) = ds := List.map_snd_zip (by omega)
        have hlen : (vs.zip ds).length = vs.length := by rw [List.length_zip]; omega
        have ez := each_zip (K := X.K) (F := F) h2 rv
        have er : PySem.W.EachIs (fun (v : Value) (b : V × D) => ∃ as, Reads s.heap v b.2 as) its (vs.zip ds) := ez.mono fun v b ⟨r, d⟩ => Dp.reads I b.2 b.1 v (dp_up T.sub _ _ d) r
        refine PySem.W.sorted_data (enc := fun b : V × D => b.2) hl.isList ez er (by rw [hsnd]; exact (alikeB_of hc.2.1).1) (by rw [hsnd]; exact sortB_of hc.2.2) (by rw [hlen]; exact hz) (fun b hb => ?_) fun out ho eo => ?_
        · have hm : b.2 ∈ ds := by rw [← hsnd]; exact List.mem_map_of_mem hb
          have := depth_le hm
          omega
        · obtain ⟨n, hn⟩ := sortedAll_at s.heap its (List.toArray out)
          have hfr : s.heap.objs.size ≤ s.heap.objs.size + 1 := Nat.le_succ _
          obtain ⟨S3, T3⟩ := lay T (I.hok.fresh hfr) (.lst (((vs.zip ds).mergeSort (PySem.W.dataLe false fun b : V × D => b.2)).map (·.1)))
          have hdd : ((vs.zip ds).mergeSort (PySem.W.dataLe false fun b : V × D => b.2)).map (·.2) = ds.mergeSort leD := by
            have := List.map_mergeSort (r := PySem.W.dataLe false fun b : V × D => b.2) (s := leD) (f := fun b : V × D => b.2) (l := vs.zip ds) (fun a _ b _ => rfl)
            rw [hsnd] at this
            exact this
          have hdp := each_dpa eo
          rw [hdd] at hdp
          refine ⟨.ref (s.heap.objs.size + 1), _, I.laid (t' := s.toks) (fun b o e => sortedAll_old e) hfr (show ObjOk X.prog X.w _ _ _ (.lst _) from ⟨?_, out, n, each_fst (fun v b r => r.1) eo, hn⟩), rfl, q _ _ _ S3 T3 (.dp (.lst (.inl (.inl upd_same)) (dpa_up S3.up _ _ hdp)))⟩
          rw [List.length_map, List.length_mergeSort, hlen]
          exact hz
    · exact q.elim
  · exact q.elim
end
end Fs

set_option Elab.async false
set_option linter.all false
set_option maxRecDepth 100000
set_option maxHeartbeats 2000000
set_option autoImplicit false
namespace Fs
open PySem PySem.Spec PyProof.Rows L2

mutual
theorem reads_lt {h : Heap} : ∀ {v : Value} {d : PyData} {as : List Addr}, Reads h v d as → ∀ a ∈ as, a < h.objs.size
  | _, _, _, .none, a, m => by cases m
  | _, _, _, .bool _, a, m => by cases m
  | _, _, _, .int _ _, a, m => by cases m
  | _, _, _, .str _ _, a, m => by cases m
  | _, _, _, .list e _ _ r, a, m => by
    rcases List.mem_cons.mp m with rfl | m
    · exact Heap.lt_size e
    · exact reads_lts r a m
  | _, _, _, .tuple _ _ _ r, a, m => reads_lts r a m
  | _, _, _, .dict e _ _ r1 r2, a, m => by
    rcases List.mem_append.mp m with m | m
    · rcases List.mem_cons.mp m with rfl | m
      · exact Heap.lt_size e
      · exact reads_lts r1 a m
    · exact reads_lts r2 a m
theorem reads_lts {h : Heap} : ∀ {vs : List Value} {ds : List PyData} {as : List Addr}, ReadsAll h vs ds as → ∀ a ∈ as, a < h.objs.size
  | _, _, _, .nil, a, m => by cases m
  | _, _, _, .cons r1 r2, a, m => by
    rcases List.mem_append.mp m with m | m
    · exact reads_lt r1 a m
    · exact reads_lts r2 a m
end
/-- sorted(..) of what a dict gives -/
theorem sorted_src {prog : Program} {w : World} {A : Around} {E : Value → Shared → Prop} {s : Shared} {T : String} {r d : Addr} {n : Nat} {Pn : Nat → Value → Prop} {OK : Heap → Prop} {Q : Value → Shared → Prop} (K : PySem.W.KdlSrc prog w T r d n Pn OK) (hh : A.handled = none) (hok : OK s.heap) (hn : n ≤ sizeLine)
    (h : ∀ (h' : Heap) (tk : Nat) (acc : Array Value), (∀ b o, s.heap.get? b = some o → h'.get? b = some o) → ItemsOf Pn acc n →
      wpAny (model prog w) A.in1 (call (.builtin "list.sort") [.ref h'.objs.size]) (fun _ s' => Q (.ref h'.objs.size) s') E { s with heap := h'.push (seqObj "list" acc.toList.toArray 0), toks := tk }) :
    wpAny (model prog w) A (call (.builtin "sorted") [.ref r]) Q E s := by
  refine Calls.call_function_entry kind_sorted plain_sorted entry_sorted (args_sorted1 _) ?_
  unfold Builtin.«sorted»
  refine wpAny_bind (m := checkCount "sorted" 1 1 _) (wpAny_pure (wpAny_bind (PySem.W.kdu_collect (A := A.in1) K hh hok hn fun h' tk acc hk hacc => ?_)))
  have hl : acc.toList.length = n := by rw [Array.length_toList]; exact hacc.1
  exact wpAny_bind (wpAny_newList (wpAny_bind (wpAny_holding (wpAny_mono (h h' tk acc hk hacc) (fun _ _ x => wpAny_pure ⟨_, rfl, x⟩) fun _ _ e => e))) (by rw [hl]; exact hn))
section
variable {X : Cx} {pins : List (Addr × Obj)} {σ : L2.St} {F H : Hp} {s : Shared} {p : Addr} {kvs : List (D × D)}
abbrev PairOk (K : PySem.W.Frag) (F : Hp) (q : V × V) (y : D × D) : Prop := Dp K F q.1 y.1 ∧ Dp K F q.2 y.2
theorem kvs_pair {K : PySem.W.Frag} : ∀ {ks : List (Key × V)} {kvs : List (D × D)}, Paired (fun (x : Key × V) (y : D × D) => Dp K F (kV x.1) y.1 ∧ Dp K F x.2 y.2) ks kvs → Paired (PairOk K F) (ks.map fun x => (kV x.1, x.2)) kvs
  | _, _, .nil => .nil
  | _, _, .cons a t => .cons a (kvs_pair t)
theorem kV_of_is {P : Program} {w : World} {k : Key} {u : Value} (h : (mixKind P w).is k u = true) : RelV (kV k) u := by
  have h' : keyIs k u = true := h
  rcases keyIs_shape h' with ⟨i, t, rfl, rfl⟩ | ⟨x, t, rfl, rfl⟩
  · exact ⟨t, rfl⟩
  · exact ⟨t, rfl⟩
theorem ents_pair {K : PySem.W.Frag} : ∀ {xs : List Ent} {kvs : List (D × D)}, Paired (EntOk K F) xs kvs → ∃ kv : List (V × V), Paired (PairOk K F) kv kvs ∧ kv.length = xs.length ∧ ∀ i (hi : i < xs.length), ∃ q, kv[i]? = some q ∧ RelV q.1 (.ref xs[i].2.1) ∧ RelV q.2 xs[i].2.2
  | _, _, .nil => ⟨[], .nil, rfl, fun i hi => by simp at hi⟩
  | x :: xs, _, .cons a t => by
    obtain ⟨kv, h1, h2, h3⟩ := ents_pair t
    obtain ⟨_, _, b, v, c, d⟩ := a
    refine ⟨(.ref x.2.1, v) :: kv, .cons ⟨b, d⟩ h1, by simp [h2], fun i hi => ?_⟩
    cases i with
    | zero => exact ⟨_, rfl, rfl, c⟩
    | succ j => exact h3 j (by simpa using hi)
/-- the entries of a dict -/
theorem od_raw (I : Inv X pins σ H s) (hF : ∀ a o, F a = some o → H a = some o) (h : OwnAt X.K F H p (.dict kvs)) :
    (p == sysModules) = false ∧ ∃ es ep, s.heap.DictRaw p es ep ∧ ∃ kv : List (V × V), Paired (PairOk X.K F) kv kvs ∧ es.size = kv.length ∧ ∀ i (hi : i < es.size), ∃ q, kv[i]? = some q ∧ RelV q.1 es[i].key ∧ RelV q.2 es[i].val := by
  rcases h with ⟨ks, e, r⟩ | ⟨xs, o, ep, r⟩
  · obtain ⟨_, hd, vs, rel, dd⟩ := dk_of I.hok e
    obtain ⟨o, es, ep, ho, hc, hdat, _, hp, _⟩ := dd
    refine ⟨hd, es, ep, ⟨o, ho, hc, hdat⟩, ks.map fun x => (kV x.1, x.2), ?_, ?_, fun i hi => ?_⟩
    · exact kvs_pair r
    · rw [List.length_map, rel.length, ← hp.length]; simp
    · have hiv : i < vs.length := by rw [← hp.length]; simpa using hi
      have hik : i < ks.length := by rw [rel.length]; exact hiv
      have g := hp.get? (e := es[i]) (k := vs[i].1) (v := vs[i].2) (i := i) (by simp [hi]) (by simp [hiv])
      obtain ⟨q, hq, r1, r2⟩ : ∃ q, ks[i]? = some q ∧ q.1 = vs[i].1 ∧ RelV q.2 vs[i].2 := by
        obtain ⟨q, hq, hr⟩ := paired_get rel (List.getElem?_eq_getElem hiv)
        exact ⟨q, hq, hr.1, hr.2⟩
      refine ⟨(kV q.1, q.2), by rw [List.getElem?_map, hq]; rfl, ?_, by rw [g.2]; exact r2⟩
      rw [r1]
      exact kV_of_is g.1
  · have he := r.ents
    obtain ⟨kv, hp, hl, hx⟩ := ents_pair he
    refine ⟨r.mods, (xs.map entOf).toArray, ep, ⟨o, xo_get I r.at', r.ex, r.dat⟩, kv, hp, ?_, fun i hi => ?_⟩
    · rw [List.size_toArray, List.length_map, hl]
    · have hix : i < xs.length := by simpa using hi
      obtain ⟨q, h1, h2, h3⟩ := hx i hix
      exact ⟨q, h1, by simpa [entOf] using h2, by simpa [entOf] using h3⟩
/-- list.sort of a list just made -/
theorem sort_made {E : Value → Shared → Prop} {Q : Value → Shared → Prop} {vs : List Value} {bs : List (V × D)} (hu : X.A.units + 65 < cLine) (I : Inv X pins σ H s) (hF : ∀ a o, F a = some o → H a = some o)
    (e : PySem.W.EachIs (fun (v : Value) (b : V × D) => RelV b.1 v ∧ Dp X.K F b.1 b.2) vs bs) (hsh : SeqAt.shaped (.list (bs.map (·.2))) = true) (hal : alikeB (bs.map (·.2)) = true) (hso : sortB (bs.map (·.2)) = true) (hL : bs.length ≤ sizeLine)
    (q : ∀ s', H s.heap.objs.size = none → Inv X pins σ (upd H s.heap.objs.size (.lst ((bs.mergeSort (PySem.W.dataLe false fun b : V × D => b.2)).map (·.1)))) s' → DpAll X.K F ((bs.mergeSort (PySem.W.dataLe false fun b : V × D => b.2)).map (·.1)) ((bs.map (·.2)).mergeSort leD) → Q (.ref s.heap.objs.size) s') :
    wpAny (model X.prog X.w) X.A.in1 (call (.builtin "list.sort") [.ref s.heap.objs.size]) (fun _ s' => Q (.ref s.heap.objs.size) s') E { s with heap := s.heap.push (seqObj "list" vs.toArray 0) } := by
  have ho : (s.heap.push (seqObj "list" vs.toArray 0)).get? s.heap.objs.size = some (seqObj "list" vs.toArray 0) := Heap.get?_push_size _ rfl
  have er : PySem.W.EachIs (fun (v : Value) (b : V × D) => ∃ as, Reads (s.heap.push (seqObj "list" vs.toArray 0)) v b.2 as ∧ s.heap.objs.size ∉ as) vs bs := e.mono fun v b ⟨r, d⟩ => by
    obtain ⟨as, ra⟩ := Dp.reads I b.2 b.1 v (dp_up hF _ _ d) r
    exact ⟨as, PyProof.Rows.Reads.keeps (fun _ _ z => Heap.get?_push_of_some _ z) ra, fun m => Nat.lt_irrefl _ (reads_lt ra _ m)⟩
  have hd := depth_all hsh
  refine PySem.W.list_sort_data (enc := fun b : V × D => b.2) ho e er (alikeB_of hal).1 (sortB_of hso) hL (fun b hb => ?_) fun out ho2 eo => ?_
  · have := depth_le (List.mem_map_of_mem (f := fun b : V × D => b.2) hb)
    show X.A.units + 1 + 1 + _ < cLine
    omega
  · have hfr : s.heap.objs.size ≤ s.heap.objs.size := Nat.le_refl _
    obtain ⟨n, hn⟩ := sortedHeap_at (out := List.toArray out) (vs := vs) ho
    have hdd : ((bs.mergeSort (PySem.W.dataLe false fun b : V × D => b.2)).map (·.2)) = (bs.map (·.2)).mergeSort leD :=
      List.map_mergeSort (r := PySem.W.dataLe false fun b : V × D => b.2) (s := leD) (f := fun b : V × D => b.2) (l := bs) (fun a _ b _ => rfl)
    have hdp := each_dpa eo
    rw [hdd] at hdp
    refine q _ (I.hok.fresh hfr) (I.laid (t' := s.toks) (fun b o z => ?_) hfr (show ObjOk X.prog X.w _ _ _ (.lst _) from ⟨?_, out, n, each_fst (fun v b r => r.1) eo, hn⟩)) hdp
    · have hlt := Heap.lt_size z
      rw [sortedHeap_old (Nat.ne_of_lt hlt) (by rw [Heap.size_push]; exact Nat.lt_succ_of_lt hlt)]
      exact Heap.get?_push_of_some _ z
    · rw [List.length_map, List.length_mergeSort]; exact hL
/-- what a walk over a dict has handed out -/
theorem items_each {α : Type} {R : Value → α → Prop} {Pn : Nat → Value → Prop} {acc : Array Value} {bs : List α} {n : Nat} (h : ItemsOf Pn acc n) (hn : n = bs.length) (k : ∀ i v b, Pn i v → bs[i]? = some b → R v b) : PySem.W.EachIs R acc.toList bs := by
  subst hn
  obtain ⟨hl, hi⟩ := h
  have key : ∀ (l : List Value) (bs : List α), l.length = bs.length → (∀ (i : Nat) (v : Value) (b : α), l[i]? = some v → bs[i]? = some b → R v b) → PySem.W.EachIs R l bs := by
    intro l
    induction l with
    | nil => intro bs e _; cases bs with | nil => exact .nil | cons _ _ => cases e
    | cons x l ih =>
      intro bs e f
      cases bs with
      | nil => cases e
      | cons b bs => exact .cons (f 0 x b rfl rfl) (ih bs (Nat.succ.inj e) fun i v b' h1 h2 => f (i + 1) v b' h1 h2)
  exact key _ _ (by rw [Array.length_toList]; exact hl) fun i v b h1 h2 => k i v b (hi i v (by rw [← Array.getElem?_toList]; exact h1)) h2
def keysOf (kvs : List (D × D)) : List D := kvs.map (·.1)
def valsOf (kvs : List (D × D)) : List D := kvs.map (·.2)
def cSortD : List D → Cm D
  | [.dict kvs] => if isDict (.dict kvs) = true ∧ kvs.length ≤ 1000000 ∧ SeqAt.shaped (.list (keysOf kvs)) = true ∧ alikeB (keysOf kvs) = true ∧ sortB (keysOf kvs) = true then .ret (.list ((keysOf kvs).mergeSort leD)) else .bad
  | _ => .bad
theorem pair_keys {K : PySem.W.Frag} : ∀ {kv : List (V × V)} {kvs : List (D × D)}, Paired (PairOk K F) kv kvs → ((kv.map (·.1)).zip (keysOf kvs)).map (·.2) = keysOf kvs
  | _, _, .nil => rfl
  | a :: kv, b :: kvs, .cons _ t => by
    have ih := pair_keys t
    show b.1 :: ((kv.map (·.1)).zip (keysOf kvs)).map (·.2) = b.1 :: keysOf kvs
    rw [ih]
theorem k_sortD (hc : X.calm = true) (hu : X.A.units + 65 < cLine) : CallR X (.builtin "sorted") (rDs X.K cSortD) := by
  intro pins s σ H xs us Q I rx h
  obtain ⟨dr, F, ds, T, bx, q⟩ := h
  unfold cSortD at q
  split at q
  · rename_i kvs
    split at q
    · rename_i hcn
      obtain ⟨hd0, hlen, hsh, hal, hso⟩ := hcn
      cases bx with
      | cons b1 bx =>
        cases bx
        have hne : kvs ≠ [(.none, .none)] := fun e => by subst e; cases hd0
        obtain ⟨p, rfl, ow, nd⟩ := bp_dict T b1 hne
        obtain ⟨u, rfl, ru⟩ := vals1 rx
        obtain rfl : u = Value.ref p := ru
        obtain ⟨lo, es, ep, hraw, kv, hp, hl, hx⟩ := od_raw I T.sub ow
        have hz : (kv.map (·.1)).length = (keysOf kvs).length := by rw [List.length_map, hp.length]; simp [keysOf]
        have hbl : ((kv.map (·.1)).zip (keysOf kvs)).length = es.size := by rw [List.length_zip, ← hz, List.length_map, Nat.min_self, hl]
        have hb2 := pair_keys hp
        refine sorted_src (KdlSrc.rawDict lo) (I.ok.hd hc) hraw (by rw [hl, hp.length]; exact mil hlen) fun h' tk acc hk hacc => ?_
        have I' := I.kept (t' := tk) hk
        refine sort_made (s := { s with heap := h', toks := tk }) (bs := (kv.map (·.1)).zip (keysOf kvs)) hu I' T.sub (items_each hacc hbl.symm fun i v b hv hb => ?_) (by rw [hb2]; exact hsh) (by rw [hb2]; exact hal) (by rw [hb2]; exact hso) (by rw [hbl, hl, hp.length]; exact mil hlen) fun s' hn I2 hdp => ?_
        · obtain ⟨hi, rfl⟩ := hv
          obtain ⟨qq, h1, h2, _⟩ := hx i hi
          obtain ⟨y, hy⟩ : ∃ y, kvs[i]? = some y := by
            have : i < kvs.length := by rw [← hp.length, ← hl]; exact hi
            exact ⟨_, List.getElem?_eq_getElem this⟩
          rw [List.getElem?_zip_eq_some] at hb
          obtain ⟨hb1, hb2⟩ := hb
          rw [List.getElem?_map, h1] at hb1
          have hb1 : qq.1 = b.1 := Option.some.inj hb1
          obtain ⟨q2, g1, g2⟩ := paired_get hp hy
          rw [h1] at g1
          cases g1
          have hb2 : (kvs.map (·.1))[i]? = some b.2 := hb2
          rw [List.getElem?_map, hy] at hb2
          have hb2 : y.1 = b.2 := Option.some.inj hb2
          rw [← hb1, ← hb2]
          exact ⟨h2, g2.1⟩
        · rw [hb2] at hdp
          obtain ⟨S3, T3⟩ := lay T hn (.lst ((((kv.map (·.1)).zip (keysOf kvs)).mergeSort (PySem.W.dataLe false fun b : V × D => b.2)).map (·.1)))
          exact ⟨.ref h'.objs.size, _, I2, rfl, q _ _ _ S3 T3 (.dp (.lst (.inl (.inl upd_same)) (dpa_up S3.up _ _ hdp)))⟩
    · exact q.elim
  · exact q.elim
end
section
variable {X : Cx} {e : Expr} {f : DE}
/-- what is fresh may be looked at -/
theorem b_f (h : PE X e (tF X.K f)) : PE X e (tB X.K f) := pe_imp h fun σ H Q ⟨dr, B, F, env, s, r, q⟩ => ⟨dr, B, F, env, s, r, Cm.All.mono (fun d k p F' H' S T (hp : H p = none) nf o => k (.ref p) F' H' S T (.own nf (not_dr s hp) o)) q⟩
end
end Fs

set_option Elab.async false
set_option linter.all false
set_option maxRecDepth 100000
set_option maxHeartbeats 2000000
set_option autoImplicit false
namespace Fs
open PySem PySem.Spec PyProof.Rows L2

/-! ### for k in d: a dict whose keys are tuples -/
def Itx (p : Addr) (o : Obj) (xs : List Ent) : It :=
  ⟨fun i H => H p = some (XO p o) ∧ i < xs.length, fun i H x H' => H' = H ∧ ∃ e, xs[i]? = some e ∧ x = .ref e.2.1, fun i H => H p = some (XO p o) ∧ xs.length ≤ i⟩
theorem turn_keysX {P : Program} {w : World} {K : PySem.W.Frag} {tg : Expr} {p : Addr} {o : Obj} {xs : List Ent} {ep : Nat} (it : Addr) (hm : (p == sysModules) = false) (hx : o.ExactDict) (hod : o.data = .dict (xs.map entOf).toArray ep) :
    Turn P w K tg (Itx p o xs) [it] it (fun i h => h.IsKeyIter it p i xs.length ep) where
  mem := by simp
  obj := fun i h st b hb => by
    have e : b = it := by simpa using hb
    subst e
    obtain ⟨oi, e, c, dd⟩ := st
    exact ⟨oi, e, fun v z => by rw [dd] at z; cases z⟩
  keep := fun i h h' st k => st.at fun oi e => k it (by simp) oi e
  item := by
    intro X hP hw hK hc i pins s σ H E I hf st hg
    subst hP hw hK
    obtain ⟨hd, hi⟩ := hg
    obtain ⟨f0, f1, f2, f3, f4, f5⟩ := hf it (by simp)
    have hgd := xo_get I hd
    have hen : (xs.map entOf).toArray[i]? = some (entOf xs[i]) := by simp [hi]
    refine next_key_item st hgd hod (by simp) hen fun h' st' sb => ?_
    have I1 : Inv X pins σ H { s with heap := h' } := I.turned (t' := s.toks) (fun b ob hb e => (sb.2 b hb).trans e) f0 f1 f3 f4 f5
    obtain ⟨oi, e, c, dd⟩ := id st'
    exact ⟨_, rfl, go_of (s := { s with heap := h' }) e c dd (by decide) ⟨.ref xs[i].2.1, H, I1, rfl, ⟨rfl, xs[i], List.getElem?_eq_getElem hi, rfl⟩, st', fun b hb => (hf b hb).1⟩⟩
  done := by
    intro X hP hw hK hc i pins s σ H E I hf st hg
    subst hP hw hK
    obtain ⟨hd, hi⟩ := hg
    obtain ⟨f0, f1, f2, f3, f4, f5⟩ := hf it (by simp)
    have hgd := xo_get I hd
    exact next_key_end (I.ok.hd hc) st hgd hod (by simp) hi fun h' eb => ⟨rfl, I.turned (t' := s.toks) (fun b ob hb e => eb b ob hb e) f0 f1 f3 f4 f5⟩
  self := fun A i s Q E st h => wpAny_pyIter_keyiter st h
def dItemsK (f : DE) : DEs := fun env => (f env).bind fun d => match d with
  | .dict (e :: kvs) => if isTK e.1 = true then .ret (keysOf (e :: kvs)) else .bad
  | _ => .bad
section
variable {X : Cx} {tg e a b : Expr} {f f1 f2 : DE} {pos : Pos}
def iKx (K : PySem.W.Frag) (td : TE) : TI := fun σ H R => td σ H fun x H1 => ∃ p o xs ep, x = .ref p ∧ (p == sysModules) = false ∧ H1 p = some (XO p o) ∧ o.ExactDict ∧ o.data = .dict (xs.map entOf).toArray ep ∧ R (Itx p o xs) H1
theorem pi_kx {td : TE} (he : PE X e td) : PI X tg e (iKx X.K td) := by
  refine ⟨fun pins s σ H R I h => ?_⟩
  refine thn (he.run pins s σ H _ I h) fun u s1 ⟨x, H1, I1, rx, p, o, xs, ep, ex, hm, hd, hx, hod, q⟩ => ?_
  subst ex
  obtain rfl : u = Value.ref p := rx
  have hgd := xo_get I1 hd
  refine iter_keys hm hgd hx hod (pi_one (tk := s1.toks) I1 _ (turn_keysX _ hm hx hod) ⟨_, Heap.get?_push_size _ rfl, rfl, ?_⟩ q)
  simp
theorem itok_keys {K : PySem.W.Frag} {dr : Dr} {F0 : Hp} {p : Addr} {o : Obj} {xs : List Ent} {ep : Nat} {kvs : List (D × D)} (r : KeyAt K F0 F0 p kvs xs o ep) : ItOk K dr (Itx p o xs) (keysOf kvs) F0 where
  stop := fun F H i up s hi => ⟨s.sub _ _ (up _ _ r.at'), by
    have := r.ents.length
    simp [keysOf] at hi
    omega⟩
  go := fun F H i d up s hd => by
    have hl := r.ents.length
    have hi : i < xs.length := by
      have := (List.getElem?_eq_some_iff.mp hd).1
      simp [keysOf] at this
      omega
    refine ⟨⟨s.sub _ _ (up _ _ r.at'), hi⟩, fun x H2 y => ?_⟩
    obtain ⟨e1, en, e2, e3⟩ := y
    subst e1
    subst e3
    refine ⟨F, .refl, s, .dp ?_⟩
    unfold keysOf at hd
    rw [List.getElem?_map] at hd
    cases hk : kvs[i]? with
    | none => rw [hk] at hd; cases hd
    | some kv =>
      rw [hk] at hd
      have hd : kv.1 = d := Option.some.inj hd
      obtain ⟨en', g1, g2⟩ := paired_get r.ents hk
      rw [e2] at g1
      cases g1
      rw [← hd]
      exact dp_up up _ _ g2.2.2.1
theorem i_dkeys (h : PE X e (tE X.K f)) : PI X tg e (tI X.K (dItemsK f)) := pi_imp (pi_kx h) fun σ H R ⟨dr, B, F, env, s, r, q⟩ => ⟨dr, B, F, env, s, r, Cm.All.mono (by
  intro d k v F' H' S' T' rv
  split at k
  · rename_i en kvs
    split at k
    · rename_i htk
      cases rv with
      | dp z => cases z
      | drw => cases htk
      | dct ow =>
        rcases ow with ⟨ks, e, rr⟩ | ⟨xs, o, ep, rr⟩
        · cases rr with
          | cons a t =>
            have h1 := a.1
            rename_i x xs
            obtain ⟨key, val⟩ := x
            exfalso
            have hb := dp_tk h1 htk
            obtain ⟨b, hb⟩ := hb
            cases key <;> cases hb
        · exact ⟨_, o, xs, ep, rfl, rr.mods, T'.sub _ _ rr.at', rr.ex, rr.dat, k _ F' H' S' T' (itok_keys rr)⟩
    · exact k.elim
  · exact k.elim) (Cm.all_bind.mp q)⟩
/-! ### {k: v} -/
def dOneD (fk fv : DE) : DE := fun env => (fk env).bind fun k => (fv env).bind fun v => if keyOk [] k = true ∧ flatD v = true then .ret (.dict [(k, v)]) else .bad
theorem f_d1 (hu : X.A.units + 65 < cLine) (hk : PE X a (tE X.K f1)) (hv : PE X b (tE X.K f2)) : PE X (.Dict [some a] [b] pos) (tF X.K (dOneD f1 f2)) := by
  refine ⟨fun pins s σ H Q I h => ?_⟩
  obtain ⟨dr, B, F, env, T0, r, q⟩ := h
  rw [arm_eval_Dict]
  refine wpAny_bind (wpAny_standAt ?_)
  have hd := dictDisplay_pairs [(eval a X.env, do let x ← eval b X.env; standAt pos; pure x)] (by simp) (show 1 < 17 by decide)
  show wpAny _ _ (dictDisplay ([(eval a X.env, do let x ← eval b X.env; standAt pos; pure x)].map fun p => (some p.1, p.2))) _ _ _
  rw [hd]
  refine wpAny_bind ?_
  unfold subDict
  refine wpAny_bind (wpAny_alloc ?_)
  have hD : H s.heap.objs.size = none := I.hok.fresh (Nat.le_refl _)
  have In : Inv X pins σ (upd H s.heap.objs.size (.dK [])) { s with heap := s.heap.push { cls := .type "dict", data := .dict #[] } } :=
    I.laid (t' := s.toks) (fun _ _ e => Heap.get?_push_of_some _ e) (Nat.le_refl _) (dk_empty s.heap I.big)
  generalize s.heap.objs.size = Dd at *
  generalize ({ s with heap := s.heap.push { cls := .type "dict", data := .dict #[] } } : Shared) = s0 at *
  obtain ⟨S1, T1, nf⟩ := lay_own T0 hD (.dK [])
  have ndD := not_dr T0 hD
  have own1 : OwnAt X.K F (upd H Dd (.dK [])) Dd (.dict []) := .inl ⟨[], upd_same, .nil⟩
  refine wpAny_bind (wpAny_holding ?_)
  have hle : [(eval a X.env, do let x ← eval b X.env; standAt pos; pure x)].length ≤ 15 := show 1 ≤ 15 by decide
  rw [if_pos hle]
  refine wpAny_bind (m := evalPairs _) ?_
  unfold evalPairs
  refine wpAny_bind (thn (hk.run pins s0 σ _ (fun y H3 => ∃ F3 k, Stt dr F3 H3 ∧ Step dr F (upd H Dd (.dK [])) F3 H3 ∧ Rp X.K dr F3 y k ∧ ((f2 env).bind fun v => if keyOk [] k = true ∧ flatD v = true then .ret (.dict [(k, v)]) else (.bad : Cm D)).All (fun d => ∀ p F' H', Step dr F H F' H' → Stt dr F' H' → H p = none → F' p = none → OwnAt X.K F' H' p d → Q (.ref p) H')) In
    ⟨dr, B, F, env, T1, r.step S1, Cm.All.mono (fun k kk y F3 H3 S3 T3 r3 => ⟨F3, k, T3, S3, r3, kk⟩) (Cm.all_bind.mp q)⟩) fun kv s3 ⟨y, H3, I3, ry, F3, k, T3, S3, r3, q3⟩ => ?_)
  refine wpAny_bind (wpAny_holding ?_)
  refine wpAny_bind (thn (hv.run pins s3 σ _ (fun z H4 => ∃ F4 v, Stt dr F4 H4 ∧ Step dr F3 H3 F4 H4 ∧ Rp X.K dr F4 z v ∧ (if keyOk [] k = true ∧ flatD v = true then .ret (.dict [(k, v)]) else (.bad : Cm D)).All (fun d => ∀ p F' H', Step dr F H F' H' → Stt dr F' H' → H p = none → F' p = none → OwnAt X.K F' H' p d → Q (.ref p) H')) I3
    ⟨dr, B, F3, env, T3, (r.step S1).step S3, Cm.All.mono (fun v kk y F4 H4 S4 T4 r4 => ⟨F4, v, T4, S4, r4, kk⟩) (Cm.all_bind.mp q3)⟩) fun vv s4 ⟨z, H4, I4, rz, F4, v, T4, S4, r4, q4⟩ => ?_)
  refine wpAny_bind (wpAny_standAt (wpAny_pure ?_))
  refine wpAny_bind (wpAny_holding ?_)
  unfold evalPairs
  refine wpAny_pure (wpAny_pure ?_)
  refine wpAny_holding ?_
  by_cases hc : keyOk [] k = true ∧ flatD v = true
  · rw [if_pos hc] at q4
    refine wpAny_bind ?_
    rw [List.forIn_cons]
    have own4 := (own1.step S3 ndD).step S4 ndD
    have nf4 : F4 Dd = none := by
      have n3 := S3.still nf (by exact upd_same)
      obtain ⟨u, hu⟩ := (own1.step S3 ndD).there
      exact S4.still n3 hu
    refine wpAny_bind (wpAny_bind (od_set hu I4 T4.sub own4 hc.1 (dp_up S4.up _ _ (rp_flat r3 (keyOk_flat hc.1))) ry (by decide) rz (rp_flat r4 hc.2) rfl fun s' o I' ow => wpAny_pure ?_))
    simp only [List.forIn_nil]
    refine wpAny_pure (wpAny_pure (wpAny_pure (wpAny_pure ?_)))
    have T8 : Stt dr F4 (upd H4 Dd o) := ⟨fun a u e => by rw [upd_ne (ne_of_none e nf4)]; exact T4.sub _ _ e, T4.drw.upd ndD, T4.nodr⟩
    have SS := (S1.trans S3 T3).trans S4 T4
    exact ⟨.ref Dd, _, I', rfl, q4 Dd F4 _ ⟨SS.up, fun a u n e => by rw [upd_ne (ne_of_none e hD)]; exact SS.keep a u n e, SS.new⟩ T8 hD nf4 ow⟩
  · rw [if_neg hc] at q4
    exact q4.elim
end
end Fs

set_option Elab.async false
set_option linter.all false
set_option maxRecDepth 100000
set_option maxHeartbeats 2000000
set_option autoImplicit false
namespace Fs
open PySem PySem.Spec PyProof.Rows L2
/-! ### (*e, ..) -/
def dStar (f : DE) (fs : DEs) : DEs := fun env => (f env).bind fun d => match d with
  | .tuple ds => (fs env).bind fun es => .ret (ds ++ es)
  | .list ds => (fs env).bind fun es => .ret (ds ++ es)
  | _ => .bad
theorem pr_star {K : PySem.W.Frag} {dr : Dr} {F : Hp} : ∀ {xs : List V} {ds : List D} {ys : List V} {es : List D}, DpAll K F xs ds → Paired (Rp K dr F) ys es → Paired (Rp K dr F) (xs ++ ys) (ds ++ es)
  | _, _, _, _, .nil, h => h
  | _, _, _, _, .cons a t, h => .cons (.dp a) (pr_star t h)
section
variable {X : Cx} {e : Expr} {es : List Expr} {f : DE} {fs : DEs} {p : Pos}
theorem a_star (ha : PE X e (tE X.K f)) (hr : PA X es (tA X.K fs)) (hs : starEach (.Starred e p :: es) X.env = (true, eval e X.env) :: starEach es X.env := by rfl) : PA X (.Starred e p :: es) (tA X.K (dStar f fs)) :=
  pa_imp (StX.pa_star ha hr hs) fun σ H Q ⟨dr, B, F, env, s, r, q⟩ => ⟨dr, B, F, env, s, r, Cm.All.mono (by
    intro d k v F1 H1 S1 T1 rv
    cases d with
    | list ds =>
      cases rv with
      | dp z =>
        cases z with
        | lst hs ha => exact ⟨_, _, rfl, .inr (sql_up T1.sub hs), dr, B, F1, env, T1, r.step S1, Cm.All.mono (by
          intro es' k3 vs F3 H3 S3 T3 p3
          exact k3 _ F3 H3 (S1.trans S3 T3) T3 (pr_star (dpa_up S3.up _ _ ha) p3)) (Cm.all_bind.mp k)⟩
    | tuple ds =>
      cases rv with
      | dp z =>
        cases z with
        | tup hs ha => exact ⟨_, _, rfl, .inl (sqt_up T1.sub hs), dr, B, F1, env, T1, r.step S1, Cm.All.mono (by
          intro es' k3 vs F3 H3 S3 T3 p3
          exact k3 _ F3 H3 (S1.trans S3 T3) T3 (pr_star (dpa_up S3.up _ _ ha) p3)) (Cm.all_bind.mp k)⟩
    | none => exact k.elim
    | bool _ => exact k.elim
    | int _ => exact k.elim
    | str _ => exact k.elim
    | dict _ => exact k.elim) (Cm.all_bind.mp q)⟩
end
end Fs

set_option Elab.async false
set_option linter.all false
set_option maxRecDepth 100000
set_option maxHeartbeats 2000000
set_option autoImplicit false
namespace Fs
open PySem PySem.Spec PyProof.Rows L2 RZ

/-! ### zip of a tuple and a list -/
abbrev zm1 (h : Heap) (l1 : Addr) : Heap := h.push { cls := .type "tuple_iterator", data := .fields #[.ref l1, .int 0 0] }
abbrev zm2 (h : Heap) (l1 l2 : Addr) : Heap := (zm1 h l1).push { cls := .type "list_iterator", data := .fields #[.ref l2, .int 0 0] }
abbrev zm3 (h : Heap) (l1 l2 : Addr) : Heap := (zm2 h l1 l2).push { cls := .type "tuple", data := .seq #[.ref h.objs.size, .ref (zm1 h l1).objs.size] }
abbrev zm4 (h : Heap) (l1 l2 : Addr) : Heap := (zm3 h l1 l2).push { cls := .type "tuple", data := .seq #[.none, .none] }
abbrev zm5 (h : Heap) (l1 l2 : Addr) : Heap := (zm4 h l1 l2).push { cls := .type "zip", data := .fields #[.none, .bool false, .bool false, .ref (zm2 h l1 l2).objs.size, .ref (zm3 h l1 l2).objs.size] }
theorem meets_zm (l1 l2 : Addr) (xs ys : Array Value) :
    Meets (Builtin.«zip.__new__» ⟨[.type "zip", .ref l1, .ref l2], []⟩) (fun _ R s => s.heap.IsTuple l1 xs ∧ s.heap.IsList l2 ys ∧
      R (.ok (.ret (.ref (zm4 s.heap l1 l2).objs.size))) { s with heap := zm5 s.heap l1 l2 }) :=
  .of_wp fun prog w A R s h => by
    obtain ⟨hp, g, d, tk, os⟩ := s; obtain ⟨hl1, hl2, h⟩ := h
    have hsub := sub_zip
    have hL1 : Heap.IsTuple (Shared.heap ⟨hp, g, d, tk, os⟩) l1 xs := hl1
    have hL2 : Heap.IsList (Shared.heap ⟨hp.push { cls := .type "tuple_iterator", data := .fields #[.ref l1, .int 0 0] }, g, d, tk, os⟩) l2 ys := Heap.IsList.push hl2 _
    wp_walk using wpAny_pyIter_tuple hL1, wpAny_pyIter_list hL2
    exact ⟨_, rfl, h⟩
section
variable {prog : Program} {w : World} {A : Around} {E : Value → Shared → Prop} {s : Shared}
theorem call_zm {l1 l2 : Addr} {xs ys : Array Value} {Q : Value → Shared → Prop} (hl1 : s.heap.IsTuple l1 xs) (hl2 : s.heap.IsList l2 ys)
    (h : ∀ h', IsZip h' (s.heap.objs.size + 4) (s.heap.objs.size + 2) (s.heap.objs.size + 3) .none → PySem.IsPair h' (s.heap.objs.size + 2) (.ref s.heap.objs.size) (.ref (s.heap.objs.size + 1)) →
      PySem.IsPair h' (s.heap.objs.size + 3) .none .none → h'.IsTupleIter s.heap.objs.size l1 0 → h'.IsListIter (s.heap.objs.size + 1) l2 0 → h'.objs.size = s.heap.objs.size + 5 →
      (∀ c o, s.heap.get? c = some o → h'.get? c = some o) → Q (.ref (s.heap.objs.size + 4)) { s with heap := h' }) :
    wpAny (model prog w) A (call (.type "zip") [.ref l1, .ref l2]) Q E s := by
  refine callType_new F.called_zip (by decide) (F.typeCall_zip_2 _ _) (F.newCall_zip_2 _ _) (fun obj => F.args_object_init_3 obj _ _) F.entry_zip_new
    (meets_zm l1 l2 xs ys) ⟨hl1, hl2, ?_⟩
  have z1 : (zm1 s.heap l1).objs.size = s.heap.objs.size + 1 := Heap.size_push ..
  have z2 : (zm2 s.heap l1 l2).objs.size = s.heap.objs.size + 2 := by rw [Heap.size_push, z1]
  have z3 : (zm3 s.heap l1 l2).objs.size = s.heap.objs.size + 3 := by rw [Heap.size_push, z2]
  have z4 : (zm4 s.heap l1 l2).objs.size = s.heap.objs.size + 4 := by rw [Heap.size_push, z3]
  have z5 : (zm5 s.heap l1 l2).objs.size = s.heap.objs.size + 5 := by rw [Heap.size_push, z4]
  have g5 : (zm5 s.heap l1 l2).get? (zm4 s.heap l1 l2).objs.size = some _ := Heap.get?_push_size _ rfl
  have g4 : (zm5 s.heap l1 l2).get? (zm3 s.heap l1 l2).objs.size = some _ := Heap.get?_push_of_some _ (Heap.get?_push_size _ rfl)
  have g3 : (zm5 s.heap l1 l2).get? (zm2 s.heap l1 l2).objs.size = some _ := Heap.get?_push_of_some _ (Heap.get?_push_of_some _ (Heap.get?_push_size _ rfl))
  have g2 : (zm5 s.heap l1 l2).get? (zm1 s.heap l1).objs.size = some _ := Heap.get?_push_of_some _ (Heap.get?_push_of_some _ (Heap.get?_push_of_some _ (Heap.get?_push_size _ rfl)))
  have g1 : (zm5 s.heap l1 l2).get? s.heap.objs.size = some _ := Heap.get?_push_of_some _ (Heap.get?_push_of_some _ (Heap.get?_push_of_some _ (Heap.get?_push_of_some _ (Heap.get?_push_size _ rfl))))
  show _ ∧ _
  rw [z2, z3, z4] at g5
  rw [z1, z2] at g3
  rw [z3] at g4
  rw [z1] at g2
  rw [z4]
  exact ⟨⟨_, g5, rfl⟩, h _ g5 g3 g4 ⟨_, g1, rfl, rfl⟩ ⟨_, g2, rfl, rfl⟩ z5 fun c o x =>
    Heap.get?_push_of_some _ (Heap.get?_push_of_some _ (Heap.get?_push_of_some _ (Heap.get?_push_of_some _ (Heap.get?_push_of_some _ x))))⟩
end
def ItzM (K : PySem.W.Frag) (a b : Addr) (xs ys : List V) : It :=
  ⟨fun i H => SqT K H a xs ∧ SqL K H b ys ∧ i < xs.length ∧ i < ys.length,
    fun i H v H' => ∃ T x y, v = .ref T ∧ H T = none ∧ H' = upd H T (.tup [x, y]) ∧ xs[i]? = some x ∧ ys[i]? = some y,
    fun i H => SqT K H a xs ∧ SqL K H b ys ∧ (xs.length ≤ i ∨ ys.length ≤ i)⟩
theorem sep_of {z TI TO i1 i2 a b : Addr} (D : ZipApart z TI TO i1 i2 a b) : ZipSep2 z TI TO i1 i2 [i1, a] [i2, b] where
  TIz := D.TIz
  TOz := D.TOz
  TITO := D.TITO
  TIi1 := D.TIi1
  mem1 := by simp
  zf1 := by simp; exact ⟨D.i1z.symm, D.l1z.symm⟩
  Tf1 := by simp; exact ⟨D.TOi1, D.l1TO.symm⟩
  TIi2 := D.TIi2
  mem2 := by simp
  zf2 := by simp; exact ⟨D.i2z.symm, D.l2z.symm⟩
  Tf2 := by simp; exact ⟨D.TOi2, D.l2TO.symm⟩
  sep1_2 := by simp; exact ⟨D.i12, D.l2i1.symm⟩
  sep2_1 := by simp; exact ⟨D.i12.symm, D.l1i2.symm⟩
theorem turn_zipM {P : Program} {w : World} {K : PySem.W.Frag} {elts : List Expr} {kk : Nat} {tpos : Pos} {a b z TI TO i1 i2 : Addr} {xs ys : List V} (D : ZipApart z TI TO i1 i2 a b) :
    Turn P w K (.Tuple elts kk tpos) (ItzM K a b xs ys) [z, TI, TO, i1, i2] z (fun i h => (IsZip h z TI TO .none ∧ PySem.IsPair h TI (.ref i1) (.ref i2) ∧ (∃ x y, PySem.IsPair h TO x y) ∧ h.IsTupleIter i1 a i ∧ h.IsListIter i2 b i) ∧ i ≤ xs.length ∧ i ≤ ys.length) where
  mem := by simp
  obj := fun i h st c hc => by
    obtain ⟨⟨hz, hTI, ⟨x, y, hTO⟩, ⟨o1, e1, _, d1⟩, ⟨o2, e2, _, d2⟩⟩, _⟩ := st
    have e' : c = z ∨ c = TI ∨ c = TO ∨ c = i1 ∨ c = i2 := by simpa using hc
    rcases e' with q | q | q | q | q
    · rw [q]; exact ⟨_, hz, fun v q => nomatch q⟩
    · rw [q]; exact ⟨_, hTI, fun v q => nomatch q⟩
    · rw [q]; exact ⟨_, hTO, fun v q => nomatch q⟩
    · rw [q]; exact ⟨o1, e1, fun v q => by rw [d1] at q; cases q⟩
    · rw [q]; exact ⟨o2, e2, fun v q => by rw [d2] at q; cases q⟩
  keep := fun i h h' st k => by
    obtain ⟨⟨hz, hTI, ⟨x, y, hTO⟩, h1, h2⟩, hb⟩ := st
    exact ⟨⟨k z (by simp) _ hz, k TI (by simp) _ hTI, ⟨x, y, k TO (by simp) _ hTO⟩, h1.at fun o q => k i1 (by simp) o q, h2.at fun o q => k i2 (by simp) o q⟩, hb⟩
  item := by
    intro X hP hw hK hc i pins s σ H E I hf st hg
    subst hP hw hK
    obtain ⟨⟨hz, hTI, ⟨x0, y0, hTO⟩, h1, h2⟩, hb1, hb2⟩ := st
    obtain ⟨hqx, hqy, hlx, hly⟩ := hg
    obtain ⟨its, rv, p, _⟩ := I.tuple hqx
    obtain ⟨its2, rv2, p2, _⟩ := I.list hqy
    obtain ⟨x, hx⟩ : ∃ x, xs[i]? = some x := ⟨_, List.getElem?_eq_getElem hlx⟩
    obtain ⟨y, hy⟩ : ∃ y, ys[i]? = some y := ⟨_, List.getElem?_eq_getElem hly⟩
    obtain ⟨u, hu, ru⟩ := rv.get hx
    obtain ⟨u2, hu2, ru2⟩ := rv2.get hy
    have l1 := rv.length
    have l2 := rv2.length
    have hzl : z < s.heap.objs.size := Heap.lt_size hz
    have hh := I.ok.hd hc
    have D1 := Draws.tuple (prog := X.prog) (w := X.w) (A := X.A.in1) hh i1 a D.l1i1 its.toArray
    have D2 := Draws.list (prog := X.prog) (w := X.w) (A := X.A.in1) hh i2 b D.l2i2 its2.toArray
    refine wpAny_pyNext_zipD2_item (sep_of D) D1 D2 hz hTI hTO ⟨h1, p⟩ ⟨h2, p2.isList⟩ (by rw [List.size_toArray]; omega) (by rw [List.size_toArray]; omega) fun x1 x2 h' tk y1 y2 z' TO' st1 st2 hT hsz hk => ?_
    have e1 : u = x1 := by
      have : its.toArray[i]? = some x1 := y1
      rw [List.getElem?_toArray, hu] at this
      exact Option.some.inj this
    have e2 : u2 = x2 := by
      have : its2.toArray[i]? = some x2 := y2
      rw [List.getElem?_toArray, hu2] at this
      exact Option.some.inj this
    subst e1 e2
    refine ⟨_, rfl, wpAny_letOwnedTupleGo_zip (s := { s with heap := h', toks := tk }) z' fun h'' z'' sb => ?_⟩
    have hT2 : h''.get? s.heap.objs.size = some { cls := .type "tuple", data := .seq #[u, u2] } := (sb.2 _ (Nat.ne_of_gt hzl)).trans hT
    have new : ObjOk X.prog X.w (upd H s.heap.objs.size (.tup [x, y])) h'' s.heap.objs.size (.tup [x, y]) :=
      ⟨by show 2 ≤ sizeLine; decide, [u, u2], .cons ru (.cons ru2 .nil), ⟨_, hT2, rfl, _, rfl⟩⟩
    have I1 : Inv X pins σ (upd H s.heap.objs.size (.tup [x, y])) { s with heap := h'', toks := tk } :=
      I.turnedNew (t' := tk) (ch := [z, TI, TO, i1, i2]) (fun c o hb q => (sb.2 c (fun q' => hb (by simp [q']))).trans (hk c o (fun q' => hb (by simp [q'])) (fun q' => hb (by simp [q'])) (fun q' => hb (by simp [q'])) (fun q' => hb (by simp [q'])) q)) hf (Nat.le_refl _) new
    refine ⟨.ref s.heap.objs.size, _, I1, rfl, ⟨_, x, y, rfl, I.hok.fresh (Nat.le_refl _), rfl, hx, hy⟩, ⟨⟨z'', ?_, ⟨u, u2, ?_⟩, ?_, ?_⟩, by omega, by omega⟩, fun c hcm => ?_⟩
    · exact (sb.2 _ D.TIz).trans (hk _ _ D.TIz D.TITO D.TIi1 D.TIi2 hTI)
    · exact (sb.2 _ D.TOz).trans TO'
    · exact st1.1.at fun o q => (sb.2 _ D.i1z).trans q
    · exact st2.1.at fun o q => (sb.2 _ D.i2z).trans q
    · have hlt : c < s.heap.objs.size := by
        have e' : c = z ∨ c = TI ∨ c = TO ∨ c = i1 ∨ c = i2 := by simpa using hcm
        rcases e' with q | q | q | q | q
        · rw [q]; exact hzl
        · rw [q]; exact Heap.lt_size hTI
        · rw [q]; exact Heap.lt_size hTO
        · rw [q]; obtain ⟨_, e1, _⟩ := h1; exact Heap.lt_size e1
        · rw [q]; obtain ⟨_, e2, _⟩ := h2; exact Heap.lt_size e2
      rw [upd_ne (Nat.ne_of_lt hlt)]
      exact (hf c hcm).1
  done := by
    intro X hP hw hK hc i pins s σ H E I hf st hg
    subst hP hw hK
    obtain ⟨⟨hz, hTI, ⟨x0, y0, hTO⟩, h1, h2⟩, hb1, hb2⟩ := st
    obtain ⟨hqx, hqy, hend⟩ := hg
    obtain ⟨its, rv, p, _⟩ := I.tuple hqx
    obtain ⟨its2, rv2, p2, _⟩ := I.list hqy
    have l1 := rv.length
    have l2 := rv2.length
    have hh := I.ok.hd hc
    have D1 := Draws.tuple (prog := X.prog) (w := X.w) (A := X.A.in1) hh i1 a D.l1i1 its.toArray
    have D2 := Draws.list (prog := X.prog) (w := X.w) (A := X.A.in1) hh i2 b D.l2i2 its2.toArray
    exact wpAny_pyNext_zipD2_end (sep_of D) D1 D2 hz hTI hTO ⟨h1, p⟩ ⟨h2, p2.isList⟩ (by rw [List.size_toArray]; omega) (by rw [List.size_toArray]; omega) (by rw [List.size_toArray, List.size_toArray]; omega)
      fun h' tk hk => ⟨rfl, I.turnedL (t' := tk) (ch := [z, TI, TO, i1, i2]) (fun c o hb q =>
        hk c o (fun q' => hb (by simp [q'])) (fun q' => hb (by simp [q'])) (fun q' => hb (by simp [q'])) (fun q' => hb (by simp [q'])) q) hf⟩
  self := fun A i s Q E st h => wpAny_pyIter_zip st.1.1 h
def iZipM (K : PySem.W.Frag) (ta : TA) : TI := fun σ H R => ta σ H fun vs H1 => ∃ a b xs ys, vs = [.ref a, .ref b] ∧ SqT K H1 a xs ∧ SqL K H1 b ys ∧ R (ItzM K a b xs ys) H1
theorem pi_zipM {X : Cx} {e e2 : Expr} {ta : TA} {p pos tpos : Pos} {elts : List Expr} {kk : Nat} (hg : Gl X "zip") (hm : X.mg "zip" = none) (ha : PA X [e, e2] ta)
    (hs : starEach [e, e2] X.env = (false, eval e X.env) :: starEach [e2] X.env := by rfl) (hpl : (backTo pos (starEach [e2] X.env)).any (·.1) = false := by rfl) :
    PI X (.Tuple elts kk tpos) (.Call (.Name "zip" p) [e, e2] [] pos) (iZipM X.K ta) := by
  refine ⟨fun pins s σ H R I h => ?_⟩
  refine Call_ (ld_blt I hg hm PyProof.Rows.boot_zip (PyProof.Rows.callWith_type1 (thn (ha.run pos pins s σ H _ I h) fun us s1 ⟨vs, H1, I1, r1, q1⟩ => ?_) hs hpl))
  obtain ⟨a, b, xs, ys, ex, hqx, hqy, q⟩ := q1
  subst ex
  cases r1 with
  | cons r rr =>
    cases rr with
    | cons r' rr =>
      cases rr
      cases r
      cases r'
      have fresh5 : ∀ c, c ∈ [s1.heap.objs.size + 4, s1.heap.objs.size + 2, s1.heap.objs.size + 3, s1.heap.objs.size, s1.heap.objs.size + 1] → FpOk X pins H1 c := fun c hcm => by
        have e' : c = s1.heap.objs.size + 4 ∨ c = s1.heap.objs.size + 2 ∨ c = s1.heap.objs.size + 3 ∨ c = s1.heap.objs.size ∨ c = s1.heap.objs.size + 1 := by simpa using hcm
        have hle : s1.heap.objs.size ≤ c := by
          rcases e' with z | z | z | z | z
          · rw [z]; exact Nat.le_add_right _ _
          · rw [z]; exact Nat.le_add_right _ _
          · rw [z]; exact Nat.le_add_right _ _
          · rw [z]; exact Nat.le_refl _
          · rw [z]; exact Nat.le_add_right _ _
        exact I1.fpOk hle (I1.hok.fresh hle)
      obtain ⟨its, rv, p1, _⟩ := I1.tuple hqx
      obtain ⟨its2, rv2, p2, _⟩ := I1.list hqy
      obtain ⟨o1, ho1, _⟩ := id p1
      refine call_zm (show s1.heap.IsTuple a its.toArray from p1) p2.isList fun h' hz hTI hTO h1 h2 hsz hk => wpAny_pyIter_zip hz ?_
      have I2 : Inv X pins σ H1 { s1 with heap := h' } := I1.kept (t' := s1.toks) hk
      exact ⟨s1.heap.objs.size + 4, [s1.heap.objs.size + 4, s1.heap.objs.size + 2, s1.heap.objs.size + 3, s1.heap.objs.size, s1.heap.objs.size + 1], _, _, H1, rfl, I2, turn_zipM (PySem.W.ktu_apart s1.heap.objs.size a b (Heap.lt_size ho1) p2.lt), ⟨⟨hz, hTI, ⟨_, _, hTO⟩, h1, h2⟩, Nat.zero_le _, Nat.zero_le _⟩, fresh5, q⟩
theorem itok_zipM {K : PySem.W.Frag} {dr : Dr} {F : Hp} {a b : Addr} {xs ys : List V} {ds es : List D} (h : SqT K F a xs) (ha : DpAll K F xs ds) (h2 : SqL K F b ys) (hb : DpAll K F ys es) : ItOk K dr (ItzM K a b xs ys) (zip2 ds es) F where
  stop := fun F1 H1 i up s hi => ⟨sqt_up s.sub (sqt_up up h), sql_up s.sub (sql_up up h2), by
    rw [zip2_len] at hi
    rw [dpa_len ha, dpa_len hb]
    omega⟩
  go := fun F1 H1 i d up s hd => by
    obtain ⟨x, y, e1, e2, rfl⟩ := zip2_get hd
    obtain ⟨v, hv, dv⟩ := dpa_get ha e1
    obtain ⟨w, hw, dw⟩ := dpa_get hb e2
    refine ⟨⟨sqt_up s.sub (sqt_up up h), sql_up s.sub (sql_up up h2), (List.getElem?_eq_some_iff.mp hv).1, (List.getElem?_eq_some_iff.mp hw).1⟩, fun z H2 yl => ?_⟩
    obtain ⟨T, x1, y1, rfl, nT, rfl, z1, z2⟩ := yl
    rw [hv] at z1; cases z1
    rw [hw] at z2; cases z2
    obtain ⟨S2, T2⟩ := lay s nT (.tup [v, w])
    exact ⟨_, S2, T2, .dp (.tup (.inl (.inl upd_same)) (.cons (dp_up S2.up _ _ (dp_up up _ _ dv)) (.cons (dp_up S2.up _ _ (dp_up up _ _ dw)) .nil)))⟩
def dZipM (fs : DEs) : DEs := fun env => (fs env).bind fun ds => match ds with
  | [.tuple a, .list b] => .ret (zip2 a b)
  | _ => .bad
theorem i_zipM {X : Cx} {a b : Expr} {fs : DEs} {pos p tpos : Pos} {elts : List Expr} {kk : Nat} (hg : Gl X "zip") (hm : X.mg "zip" = none) (ha : PA X [a, b] (tA X.K fs))
    (hs : starEach [a, b] X.env = (false, eval a X.env) :: starEach [b] X.env := by rfl) (hpl : (backTo pos (starEach [b] X.env)).any (·.1) = false := by rfl) :
    PI X (.Tuple elts kk tpos) (.Call (.Name "zip" p) [a, b] [] pos) (tI X.K (dZipM fs)) :=
  pi_imp (pi_zipM hg hm ha hs hpl) fun σ H R ⟨dr, B, F, env, s, r, q⟩ => ⟨dr, B, F, env, s, r, Cm.All.mono (by
    intro ds k vs F' H' S' T' rv
    split at k
    · cases rv with
      | cons r1 rv =>
        cases rv with
        | cons r2 rv =>
          cases rv
          obtain ⟨p1, v1, rfl, h1, h2⟩ := bp_tup (.r (H := H') r1)
          cases r2 with
          | dp z2 =>
            cases z2 with
            | lst h3 h4 => exact ⟨_, _, _, _, rfl, sqt_up T'.sub h1, sql_up T'.sub h3, k _ F' H' S' T' (itok_zipM h1 h2 h3 h4)⟩
    · exact k.elim) (Cm.all_bind.mp q)⟩
end Fs

set_option Elab.async false
set_option linter.all false
set_option maxRecDepth 100000
set_option maxHeartbeats 4000000
set_option autoImplicit false
namespace Fs
open PySem PySem.Spec PyProof.Rows L2
/-! ### list.extend by a list that is a value -/
theorem ext_meets (l : Addr) (items : Array Value) (n : Nat) (b : Addr) (items2 : Array Value) (n2 : Nat) (sl : Array (Option Value)) (hc0 : ¬(!items.isEmpty && Builtin.List.listTooLong (items.size + items2.size)) = true) (hc1 : items.size ≤ sizeLine) (hs2 : items.size + items2.size ≤ sizeLine + 1) :
    Meets (Builtin.«list.extend» ⟨[.ref l, .ref b], []⟩) (fun _ R s => s.heap.get? l = some { cls := .type "list", dict := none, data := .seq items n, slots := #[] } ∧ s.heap.get? b = some { cls := .type "list", dict := none, data := .seq items2 n2, slots := sl } ∧ R (.ok (.ret Value.none)) { s with heap := s.heap.update l (Obj.mapSeq fun x => x ++ items2), toks := s.toks }) :=
  .of_wp fun prog w A R s h => by
    obtain ⟨hp, g, d, tk, os⟩ := s
    obtain ⟨hl, hb, h⟩ := h
    have f1 := AutoSeq1.idx_int
    have f2 := AutoSeq1.sub_tuple_tuple
    have f3 := AutoSeq1.sub_list_list
    have f4 := AutoSeq1.sub_tuple_list
    have f5 := AutoSeq1.sub_list_tuple
    have hz' : (items ++ items2).size ≤ sizeLine + 1 := by rw [Array.size_append]; exact hs2
    wp_walk using (wpAny_updateSeq hl rfl (hz := hc1) (_hz' := hz')), AutoSeq1.wpAny_loadPart' hl, AutoSeq1.wpAny_loadPart' hb
    exact ⟨_, rfl, h⟩
def rExtV (K : PySem.W.Frag) : V → List V → Hp → VK → Prop := fun x vs H Q => ∃ l b xs zs, x = .ref l ∧ vs = [.ref b] ∧ H l = some (.lst xs) ∧ SqL K H b zs ∧ xs.length + zs.length ≤ sizeLine ∧ Q .non (upd H l (.lst (xs ++ zs)))
theorem mt_extV {X : Cx} : MtM X "list.extend" (rExtV X.K) := by
  intro pins s σ H x vs v us Q I rx rv h
  obtain ⟨l, b, xs, zs, rfl, rfl, hH, hB, hz, q⟩ := h
  cases rx
  obtain ⟨u, rfl, ru⟩ := rv.one
  cases ru
  obtain ⟨z, its, n, r, hl, e⟩ := I.lstM hH
  obtain ⟨its2, r2, pl2, _⟩ := I.list hB
  have hl2 := r2.length
  obtain ⟨o2, n2, e2, hc2, hd2, hs2⟩ := pl2
  obtain ⟨cls, dict, data, sl⟩ := o2
  simp only at hc2 hd2 hs2
  subst hc2 hd2 hs2
  have hsz : its.toArray.size + its2.toArray.size ≤ sizeLine := by rw [List.size_toArray, List.size_toArray]; omega
  have hlong : ¬ (!its.toArray.isEmpty && Builtin.List.listTooLong (its.toArray.size + its2.toArray.size)) = true := by
    rw [notLongL hsz, Bool.and_false]
    exact Bool.false_ne_true
  refine call_meets F.slot_list_extend ⟨_, e, rfl⟩ F.entry_list_extend (F.args_list_extend_2 _ _)
    (ext_meets l its.toArray n b its2.toArray n2 sl hlong (by rw [List.size_toArray]; omega) (by omega)) ⟨e, e2, ?_⟩
  refine ⟨.non, _, I.lset (its' := its ++ its2) hH e (by simp) (r.append r2) ?_, rfl, q⟩
  rw [List.length_append]
  omega
def dExtV (i : Nat) (f : DE) : DS := fun env => match env[i]? with
  | some (.own (.list ds)) => (f env).bind fun d => match d with
    | .list es => if ds.length + es.length < 1000000 then .ret (.nx (env.set i (.own (.list (ds ++ es))))) else .bad
    | _ => .bad
  | _ => .bad
section
variable {X : Cx} {e : Expr} {f : DE} {pos : Pos}
theorem s_extV {i : Nat} {o : Expr} {apos epos : Pos} (ho : PE X o (tVar i)) (he : PE X e (tE X.K f))
    (h : ∀ {to : TE} {t : TA}, PE X o to → PA X [e] t → PE X (.Call (.Attribute o "extend" apos) [e] [] epos) (tBM X.K "list" (rExtV X.K) to t)) (hsw : swapsWith (.Call (.Attribute o "extend" apos) [e] [] epos) none pos.line X.env = pure false := by rfl)
    (hst : starEach (e :: []) X.env = (false, eval e X.env) :: starEach [] X.env := by rfl) :
    PS X (.Expr (.Call (.Attribute o "extend" apos) [e] [] epos) pos) (tS X.K (dExtV i f)) :=
  ps_imp (ps_expr (h ho (a_cons he a_nil hst)) hsw) fun Dn σ H ⟨dr, F0, H0, F, env, T0, S, r, q⟩ => by
    unfold dExtV at q
    split at q
    · rename_i ds hi
      obtain ⟨o1, ho1, p, hq, hB, hF, hn, vs, hv, ha⟩ := r.ok i _ hi
      subst hq
      refine ⟨_, ho1, .inl ⟨rfl, vs, .inl (.inl hv)⟩, dr, H0, F, env, T0, r, ?_⟩
      refine Cm.all_bind.mpr (Cm.All.mono ?_ (Cm.all_bind.mp q))
      intro d k us F' H' S' T' rv
      cases rv with
      | cons r1 rv =>
        cases rv
        cases d with
        | list es =>
          have k' : (if ds.length + es.length < 1000000 then Cm.ret (Out.nx (env.set i (.own (.list (ds ++ es))))) else .bad).All (Post X.K dr F0 H0 Dn) := k
          split at k'
          · rename_i hc
            cases r1 with
            | dp z =>
              cases z with
              | lst hs hw =>
                have hv' := S'.keep p _ hn hv
                refine ⟨p, _, vs, _, rfl, rfl, hv', sql_up T'.sub hs, by rw [dpa_len ha, dpa_len hw]; exact Nat.le_trans (Nat.le_of_lt hc) (by decide), ?_⟩
                have r' := r.step S'
                obtain ⟨R2, T2, hb2⟩ := r'.write T' (o := .lst (vs ++ _)) (d' := .list (ds ++ es)) hi ho1 ⟨_, upd_same, dpa_app (dpa_up S'.up _ _ ha) hw⟩
                exact k' σ F' _ T2 (step_write (S.trans S' T') hB) R2
          · exact k'.elim
        | none => exact k.elim
        | bool _ => exact k.elim
        | int _ => exact k.elim
        | str _ => exact k.elim
        | tuple _ => exact k.elim
        | dict _ => exact k.elim
    · exact q.elim
end
end Fs

set_option Elab.async false
set_option linter.all false
set_option maxRecDepth 100000
set_option maxHeartbeats 2000000
set_option autoImplicit false
namespace Fs
open PySem PySem.Spec PyProof.Rows

/-! ### sum(lists, list) -/
section
variable {prog : Program} {w : World} {A : Around} {R : Result → Shared → Prop} {E : Value → Shared → Prop} {I : Addr} {fp wr : List Addr} {n : Nat} {P : Nat → Value → Prop} {St : Nat → Shared → Prop}
def catL (val : Nat → List Value) : Nat → List Value
  | 0 => []
  | k + 1 => catL val k ++ val k
abbrev lstO (xs : List Value) (m : Nat) (sl : Array (Option Value)) : Obj := { cls := .type "list", dict := none, data := .seq xs.toArray m, slots := sl }
theorem sum_loopL (W : WalksS prog w A.in1 I fp wr (fun a b => b = a) n P St) (h0 : Heap) (hw : ∀ b o, h0.get? b = some o → b ∉ wr) (val : Nat → List Value) (ini : List Value)
    (hval : ∀ i v, i < n → P i v → ∃ b m sl, v = Value.ref b ∧ h0.get? b = some (lstO (val i) m sl)) (hfp : ∀ i s, St i s → ∀ b ∈ fp, ∃ o, s.heap.get? b = some o) (S : Addr) (hSf : S ∉ fp) (hS0 : h0.objs.size ≤ S) (hsz : ∀ i, i ≤ n → (ini ++ catL val i).length ≤ 1000000) (T0 : Addr) :
    ∀ (k i : Nat) (s : Shared) (T : Addr) (c m : Nat) (sl : Array (Option Value)), n - i = k → i ≤ n → St i s → (∀ b o, h0.get? b = some o → s.heap.get? b = some o) → s.heap.get? S = some { cls := .type "list", dict := none, data := .seq #[.ref T] c, slots := #[] } →
    s.heap.get? T = some (lstO (ini ++ catL val i) m sl) → T ≠ S → T ∉ wr → (i = 0 → T = T0) → (i ≠ 0 → h0.objs.size ≤ T ∧ sl = #[]) →
    (∀ (h' : Heap) (tk : Nat) (T' m' : Nat) (sl' : Array (Option Value)), (∀ b o, h0.get? b = some o → h'.get? b = some o) → h'.get? T' = some (lstO (ini ++ catL val n) m' sl') → (n = 0 → T' = T0) → (n ≠ 0 → h0.objs.size ≤ T' ∧ sl' = #[]) → R (.ok (.ret (.ref T'))) { s with heap := h', toks := tk }) →
    codeAny (model prog w) A (.builtin "sum.loop" ⟨[.ref I, .ref S, rawInt 2, rawInt 0], []⟩) R s := by
  have hSw : S ∉ wr := fun h => hSf (W.sub _ h)
  intro k
  induction k with
  | zero =>
    intro i s T c m sl hk hi hst hkeep hS hT hTS hTf hT0 hTn hR
    obtain rfl : i = n := by omega
    refine codeAny_builtin F.entry_sum_loop ?_
    rw [Around.under_plainId F.plain_sum_loop _]
    show wpAny _ A.in1 (seqItems? (.ref S) >>= _) _ _ s
    refine wpAny_bind (wpAny_seqItems hS rfl ?_)
    show wpAny _ A.in1 (tryCatch (pyNext (.ref I)) _ >>= _) _ _ s
    refine wpAny_bind (wpAny_tryCatch (W.done s _ _ hst fun s' hm => ?_))
    have e : s' = { s with heap := s'.heap, toks := s'.toks } := hm.eq_with
    refine wpAny_pure ?_
    rw [e]
    exact hR s'.heap s'.toks T m sl (fun b o hb => hm.heap b o (hw b o hb) (hkeep b o hb)) (hm.heap T _ hTf hT) hT0 hTn
  | succ k ih =>
    intro i s T c m sl hk hi hst hkeep hS hT hTS hTf hT0 hTn hR
    have hlt : i < n := by omega
    refine codeAny_builtin F.entry_sum_loop ?_
    rw [Around.under_plainId F.plain_sum_loop _]
    show wpAny _ A.in1 (seqItems? (.ref S) >>= _) _ _ s
    refine wpAny_bind (wpAny_seqItems hS rfl ?_)
    show wpAny _ A.in1 (tryCatch (pyNext (.ref I)) _ >>= _) _ _ s
    refine wpAny_bind (wpAny_tryCatch (W.item i s _ _ hlt hst fun v s' hP hst' hm => ?_))
    obtain ⟨b, mb, slb, rfl, hb⟩ := hval i v hlt hP
    have e : s' = { s with heap := s'.heap, toks := s'.toks } := hm.eq_with
    have hS' := hm.heap S _ hSw hS
    have hT' := hm.heap T _ hTf hT
    have hk' : ∀ b o, h0.get? b = some o → s'.heap.get? b = some o := fun b o hb => hm.heap b o (hw b o hb) (hkeep b o hb)
    have hb' := hk' _ _ hb
    show wpAny _ A.in1 ((holding [Value.ref b] (binaryOp .Add (.ref T) (.ref b))).attempt >>= _) _ _ _
    refine wpAny_bind (wpAny_attempt (wpAny_holding (PySem.concat_meets ⟨_, hT', rfl⟩ ⟨_, hb', rfl⟩ noFill_list_add seq_list_add PySem.F.slot_list_add PySem.F.entry_list_add (PySem.F.args_list_add_2 _ _) (list_addW T b (ini ++ catL val i).toArray (val i).toArray m mb none none sl slb ?_) ⟨hT', hb', ?_⟩)))
    · have := hsz (i + 1) hlt
      show (ini ++ catL val i).toArray.size + (val i).toArray.size ≤ sizeLine
      have h3 : (ini ++ catL val (i + 1)).length = (ini ++ catL val i).length + (val i).length := by
        show (ini ++ (catL val i ++ val i)).length = _
        simp [List.length_append, Nat.add_assoc]
      rw [List.size_toArray, List.size_toArray, ← h3]
      exact Nat.le_trans this (by decide)
    · have hTlt := Heap.lt_size hT'
      have hSlt := Heap.lt_size hS'
      have hcat : ((ini ++ catL val i).toArray ++ (val i).toArray) = (ini ++ catL val (i + 1)).toArray := by
        show _ = (ini ++ (catL val i ++ val i)).toArray
        simp
      rw [hcat]
      show wpAny _ A.in1 (updateSeq S (fun _ => #[.ref s'.heap.objs.size]) >>= _) _ _ _
      have hS1 : (s'.heap.push (lstO (ini ++ catL val (i + 1)) 0 #[])).get? S = some { cls := .type "list", dict := none, data := .seq #[.ref T] c, slots := #[] } := Heap.get?_push_of_some _ hS'
      have hU : (s'.heap.push (lstO (ini ++ catL val (i + 1)) 0 #[])).get? s'.heap.objs.size = some (lstO (ini ++ catL val (i + 1)) 0 #[]) := Heap.get?_push_size _ rfl
      refine wpAny_bind (wpAny_updateSeq hS1 rfl ?_)
      have hS₂ := Heap.get?_update_self (Obj.mapSeq fun _ => #[Value.ref s'.heap.objs.size]) hS1 rfl
      refine wpAny_bind (wpAny_letGo ?_)
      have neS : ∀ {x : Addr}, x ≠ S → ∀ {o}, (s'.heap.push (lstO (ini ++ catL val (i + 1)) 0 #[])).get? x = some o → ((((s'.heap.push (lstO (ini ++ catL val (i + 1)) 0 #[]))).update S (Obj.mapSeq fun _ => #[Value.ref s'.heap.objs.size])).update S (Obj.mapSeq fun _ => #[Value.ref s'.heap.objs.size])).get? x = some o :=
        fun hx o ho => (Heap.get?_update_other _ _ (Ne.symm hx)).trans ((Heap.get?_update_other _ _ (Ne.symm hx)).trans ho)
      have hfr : ∀ x ∈ fp, ∀ o, s'.heap.get? x = some o → ((((s'.heap.push (lstO (ini ++ catL val (i + 1)) 0 #[]))).update S (Obj.mapSeq fun _ => #[Value.ref s'.heap.objs.size])).update S (Obj.mapSeq fun _ => #[Value.ref s'.heap.objs.size])).get? x = some o :=
        fun x hx o ho => neS (fun z => hSf (z ▸ hx)) (Heap.get?_push_of_some _ ho)
      have hst2 := W.frame _ s' _ s'.toks hst' (Nat.le_refl _) hfr
      have hnS : s'.heap.objs.size ≠ S := Nat.ne_of_gt hSlt
      refine wpAny_bind (wpAny_updateSeq hS₂ rfl (wpAny_pure ⟨plainId_quiet F.plain_sum_loop _, ih (i + 1) _ s'.heap.objs.size _ 0 #[] (by omega) hlt hst2 (fun x o hx => neS (Nat.ne_of_lt (Nat.lt_of_lt_of_le (Heap.lt_size hx) hS0)) (Heap.get?_push_of_some _ (hk' x o hx))) (Heap.get?_update_self _ hS₂ rfl) (neS hnS hU) hnS (fun hf => ?_) (fun z => absurd z (Nat.succ_ne_zero _)) (fun _ => ⟨Nat.le_of_lt (Nat.lt_of_le_of_lt hS0 hSlt), rfl⟩) fun h' tk T' m' sl' k1 k2 k3 k4 => ?_⟩))
      · obtain ⟨o, ho⟩ := hfp _ _ hst' _ (W.sub _ hf)
        exact Nat.lt_irrefl _ (Heap.lt_size ho)
      · have := hR h' tk T' m' sl' k1 k2 k3 k4
        rw [e]
        exact this
end
section
variable {prog : Program} {w : World} {A : Around} {E : Value → Shared → Prop} {s : Shared}
theorem args_sum2 (a b : Value) : argsOk "sum" ⟨[a, b], []⟩ := by unfold argsOk; kernel_rfl
theorem call_sumL {l t0 : Addr} {vs : Array Value} {val : Nat → List Value} {ini : List Value} {m0 : Nat} {sl0 : Array (Option Value)} {Q : Value → Shared → Prop} (hh : A.handled = none) (hl : s.heap.IsList l vs) (ht : s.heap.get? t0 = some (lstO ini m0 sl0))
    (hval : ∀ i v, vs[i]? = some v → ∃ b m sl, v = Value.ref b ∧ s.heap.get? b = some (lstO (val i) m sl)) (hsz : ∀ i, i ≤ vs.size → (ini ++ catL val i).length ≤ 1000000)
    (h : ∀ (h' : Heap) (tk : Nat) (T' m' : Nat) (sl' : Array (Option Value)), (∀ b o, s.heap.get? b = some o → h'.get? b = some o) → h'.get? T' = some (lstO (ini ++ catL val vs.size) m' sl') → (vs.size = 0 → T' = t0) → (vs.size ≠ 0 → s.heap.objs.size ≤ T' ∧ sl' = #[]) → Q (.ref T') { s with heap := h', toks := tk }) :
    wpAny (model prog w) A (call (.builtin "sum") [.ref l, .ref t0]) Q E s := by
  refine call_function_tree F.kind_sum F.plain_sum F.entry_sum (args_sum2 _ _) ?_
  unfold Builtin.«sum»
  simp only [List.length_cons, List.length_nil]
  rw [if_neg (by decide)]
  refine wpAny_bind (wpAny_of_eq (show Builtin.Builtins.bindParams "sum" ["start"] 0 { pos := [Value.ref t0] } = pure [some (.ref t0)] from rfl) ?_)
  refine wpAny_bind (PySem.W.iter_listW (A := A.in1) hh hl fun s₂ e W st hfp hw hk => ?_)
  refine wpAny_bind (wpAny_pure ?_)
  have ht2 := hk _ _ ht
  have ty : s₂.TypeIs (.ref t0) "list" := ⟨_, ht2, rfl⟩
  simp only [List.forIn_cons, List.forIn_nil]
  refine wpAny_bind (wpAny_bind (wpAny_bind (wpAny_isInstance (T := "list") (b := false) ty (by rw [isSubtype_type]; kernel_rfl) ?_)))
  simp only [Bool.false_eq_true, if_false]
  refine wpAny_pure (wpAny_bind (wpAny_bind (wpAny_isInstance (T := "list") (b := false) ty (by rw [isSubtype_type]; kernel_rfl) ?_)))
  simp only [Bool.false_eq_true, if_false]
  refine wpAny_pure (wpAny_bind (wpAny_bind (wpAny_isInstance (T := "list") (b := false) ty (by rw [isSubtype_type]; kernel_rfl) ?_)))
  simp only [Bool.false_eq_true, if_false]
  refine wpAny_pure (wpAny_pure ?_)
  refine wpAny_bind (wpAny_newObj_type ?_)
  have hSf : s₂.heap.objs.size ∉ [s.heap.objs.size, l] := fun hm => Nat.lt_irrefl _ (hfp _ hm)
  refine wpAny_pure ⟨plainId_quiet F.plain_sum_loop _, ?_⟩
  have hk2 : ∀ b o, s.heap.get? b = some o → (s₂.heap.push { cls := .type "list", data := .seq ([Value.ref t0] : List Value).toArray }).get? b = some o := fun b o q => Heap.get?_push_of_some _ (hk b o q)
  have lt2 : s.heap.objs.size < s₂.heap.objs.size := hfp _ List.mem_cons_self
  have hts : t0 < s.heap.objs.size := Heap.lt_size ht
  have ntl : t0 ∉ [s.heap.objs.size, l] → True := fun _ => trivial
  refine sum_loopL W s.heap hw val ini (fun i v hi hv => hval i v hv) (fun i s' st' b hb => ?_) s₂.heap.objs.size hSf (Nat.le_of_lt lt2) hsz t0 vs.size 0 _ t0 0 m0 sl0 rfl (Nat.zero_le _)
    (W.frame 0 s₂ _ s₂.toks st (Nat.le_refl _) fun b _ o e => Heap.get?_push_of_some _ e) hk2 (Heap.get?_push_size _ rfl) ?_ (Nat.ne_of_lt (Nat.lt_trans hts lt2)) ?_ (fun _ => rfl) (fun z => absurd rfl z) fun h' tk T' m' sl' k1 k2 k3 k4 => ?_
  · obtain ⟨⟨o1, h1, _⟩, ⟨o2, h2, _⟩⟩ := st'
    rcases List.mem_cons.mp hb with z | z
    · exact ⟨o1, z ▸ h1⟩
    · exact ⟨o2, (List.mem_singleton.mp z) ▸ h2⟩
  · have : ini ++ catL val 0 = ini := by show ini ++ [] = ini; simp
    rw [this]
    exact hk2 _ _ ht
  · exact fun z => Nat.lt_irrefl _ (List.mem_singleton.mp z ▸ hts)
  · have := h h' tk T' m' sl' k1 k2 k3 k4
    subst e
    exact this
end

open L2
/-- sum(lists, list) as data -/
def catD : List D → Option (List D)
  | [] => some []
  | .list xs :: r => (catD r).map (xs ++ ·)
  | _ => none
def cSumL : List D → Cm D
  | [.list ds, .list es] => match catD ds with
    | some xs => if es = [] ∧ ds ≠ [] ∧ xs.length ≤ 1000000 then .ret (.list xs) else .bad
    | none => .bad
  | _ => .bad
end Fs

set_option Elab.async false
set_option linter.all false
set_option maxRecDepth 100000
set_option maxHeartbeats 2000000
set_option autoImplicit false
namespace Fs
open PySem PySem.Spec PyProof.Rows L2

theorem catL_take (vals : List (List Value)) : ∀ k, catL (fun i => vals.getD i []) k = (vals.take k).flatten
  | 0 => by simp [catL]
  | k + 1 => by
    rw [catL, catL_take vals k]
    by_cases h : k < vals.length
    · rw [List.take_succ, List.flatten_append, List.getD_eq_getElem?_getD, List.getElem?_eq_getElem h]
      simp
    · rw [List.take_of_length_le (by omega), List.take_of_length_le (by omega), List.getD_eq_getElem?_getD, List.getElem?_eq_none (by omega)]
      simp
theorem flat_le (vals : List (List Value)) (k : Nat) : (vals.take k).flatten.length ≤ vals.flatten.length := by
  have h : vals.flatten = (vals.take k).flatten ++ (vals.drop k).flatten := by rw [← List.flatten_append, List.take_append_drop]
  have := congrArg List.length h
  rw [List.length_append] at this
  omega
section
variable {X : Cx}
theorem sum_parts {pins : List (Addr × Obj)} {σ : L2.St} {s : Shared} {F H : Hp} {dr : Dr} (I : Inv X pins σ H s) (T : Stt dr F H) : ∀ {ds xs : List D} {vs : List V} {its : List Value}, DpAll X.K F vs ds → Vals vs its → catD ds = some xs →
    ∃ vals : List (List Value), vals.length = its.length ∧ (∀ i v, its[i]? = some v → ∃ b m sl, v = Value.ref b ∧ s.heap.get? b = some (lstO (vals.getD i []) m sl)) ∧ ∃ ws, Vals ws vals.flatten ∧ DpAll X.K F ws xs
  | [], xs, _, _, .nil, .nil, h => by
    cases h
    exact ⟨[], rfl, fun i v hv => by simp at hv, [], .nil, .nil⟩
  | d :: ds, xs, _, _, .cons a r, .cons b t, h => by
    cases d with
    | list es =>
      rw [catD] at h
      cases q : catD ds with
      | none => rw [q] at h; cases h
      | some ys =>
        rw [q] at h
        cases h
        obtain ⟨vals, h1, h2, ws, h3, h4⟩ := sum_parts I T r t q
        cases a with
        | lst hs ha =>
          obtain rfl := b
          obtain ⟨it1, rv, hl, hz⟩ := I.list (sql_up T.sub hs)
          obtain ⟨o, n, ho, hc, hdn, hdt⟩ := hl
          refine ⟨it1 :: vals, by simp [h1], fun i v hv => ?_, _, rv.append h3, dpa_app ha h4⟩
          cases i with
          | zero =>
            simp at hv
            subst hv
            obtain ⟨cls, dd, data, sls⟩ := o
            simp only at hc hdn hdt
            subst hc hdn hdt
            exact ⟨_, n, sls, rfl, by simpa using ho⟩
          | succ i =>
            simp at hv
            obtain ⟨b, m, sl, e1, e2⟩ := h2 i v hv
            exact ⟨b, m, sl, e1, by simpa using e2⟩
    | none => cases h
    | bool _ => cases h
    | int _ => cases h
    | str _ => cases h
    | tuple _ => cases h
    | dict _ => cases h
theorem k_sumL (hc : X.calm = true) : CallR X (.builtin "sum") (rDs X.K cSumL) := by
  intro pins s σ H xs us Q I rx h
  obtain ⟨dr, F, ds, T, bx, q⟩ := h
  unfold cSumL at q
  split at q
  · rename_i ds es
    split at q
    · rename_i zs hz
      split at q
      · rename_i hh
        obtain ⟨rfl, hnil, hlen⟩ := hh
        cases bx with
        | cons b1 bx =>
        cases bx with
        | cons b2 bx =>
        cases bx
        obtain ⟨p, vs, rfl, h1, h2⟩ := bp_list T b1
        obtain ⟨p2, vs2, rfl, h3, h4⟩ := bp_list T b2
        cases h4
        cases rx with
        | cons r1 rx =>
        cases rx with
        | cons r2 rx =>
        cases rx
        obtain rfl := r1
        obtain rfl := r2
        obtain ⟨its, rv, hl, _⟩ := I.list h1
        obtain ⟨its2, rv2, hl2, _⟩ := I.list h3
        cases rv2
        obtain ⟨o2, n2, ho2, hc2, hdn2, hdt2⟩ := hl2
        obtain ⟨cls, dd, data, sls⟩ := o2
        simp only at hc2 hdn2 hdt2
        subst hc2 hdn2 hdt2
        obtain ⟨vals, e1, e2, ws, e3, e4⟩ := sum_parts I T h2 rv hz
        have hwl := e3.length
        have hwl2 := dpa_len e4
        have hne : its.toArray.size ≠ 0 := by
          have l1 := rv.length
          have l2 := dpa_len h2
          rw [List.size_toArray]
          intro z
          exact hnil (List.eq_nil_of_length_eq_zero (by omega))
        refine call_sumL (ini := []) (val := fun i => vals.getD i []) (I.ok.hd hc) hl.isList ho2 (fun i v hv => e2 i v (by simpa using hv)) (fun i _ => ?_) fun h' tk T' m' sl' k1 k2 k3 k4 => ?_
        · rw [List.nil_append, catL_take]
          have := flat_le vals i
          omega
        · rw [List.nil_append, catL_take, List.size_toArray, ← e1, List.take_length] at k2
          obtain ⟨hfr, rfl⟩ := k4 hne
          obtain ⟨S3, T3⟩ := lay T (I.hok.fresh hfr) (.lst ws)
          exact ⟨.ref T', _, I.laid (t' := tk) k1 hfr (show ObjOk X.prog X.w _ _ _ (.lst ws) from ⟨by rw [hwl2]; exact Nat.le_trans hlen (by decide), vals.flatten, m', e3, k2⟩), rfl, q _ _ _ S3 T3 (.dp (.lst (.inl (.inl upd_same)) (dpa_up S3.up _ _ e4)))⟩
      · exact q.elim
    · exact q.elim
  · exact q.elim
end
end Fs

set_option Elab.async false
set_option linter.all false
set_option maxRecDepth 100000
set_option maxHeartbeats 2000000
set_option autoImplicit false
namespace Fs
open PySem PySem.Spec PyProof.Rows L2

/-! ### a, b = x, y where own lists are made -/
def dParVF (i j : Nat) (f1 f2 : DE) : DS := fun env => (f1 env).bind fun d1 => (f2 env).bind fun d2 => .ret (.nx ((env.set i (.val d1)).set j (.own d2)))
def dParFV (i j : Nat) (f1 f2 : DE) : DS := fun env => (f1 env).bind fun d1 => (f2 env).bind fun d2 => .ret (.nx ((env.set i (.own d1)).set j (.val d2)))
def dParFF (i j : Nat) (f1 f2 : DE) : DS := fun env => (f1 env).bind fun d1 => (f2 env).bind fun d2 => .ret (.nx ((env.set i (.own d1)).set j (.own d2)))
theorem hb_none {dr : Dr} {F0 H0 F H : Hp} (s : Stt dr F H) (S : Fs.Step dr F0 H0 F H) {p : Addr} (hp : H p = none) : H0 p = none := by
  cases z : H0 p with
  | none => rfl
  | some u => have := S.keep p u (not_dr s hp) z; rw [hp] at this; cases this
section
variable {X : Cx} {a b c : Expr} {f1 f2 f3 : DE} {pos : Pos}
theorem s_parVF {i j : Nat} {x y : Str} {px py pt : Pos} {kt k2 pt2} (hc : X.calm = true) (hN : X.N.Nodup) (hi : X.N[i]? = some x) (hj : X.N[j]? = some y) (hij : i ≠ j)
    (hx : X.env.scope.names.lookup x = some .local) (hy : X.env.scope.names.lookup y = some .local) (ha : PE X a (tE X.K f1)) (hb : PE X b (tF X.K f2))
    (hw : swappedStores [.Tuple [.Name x px, .Name y py] kt pt] (.Tuple [a, b] k2 pt2) X.env = pure (some [x, y]))
    (hst : starEach (a :: b :: []) X.env = (false, eval a X.env) :: starEach (b :: []) X.env := by rfl) (hst2 : starEach (b :: []) X.env = (false, eval b X.env) :: starEach [] X.env := by rfl)
    (hs : swapsWithSole [.Tuple [.Name x px, .Name y py] kt pt] (.Tuple [a, b] k2 pt2) pos.line X.env = pure false := by rfl) :
    PS X (.Assign [.Tuple [.Name x px, .Name y py] kt pt] (.Tuple [a, b] k2 pt2) pos) (tS X.K (dParVF i j f1 f2)) :=
  ps_imp (ps_par hc hN hi hj hij hx hy (pa_cons ha (pa_cons hb pa_nil hst2) hst) hw hs) fun D σ H ⟨dr, F0, H0, F, env, s, S, r, q⟩ =>
    ⟨dr, H0, F, env, s, r, Cm.All.mono (fun d1 k1 v F1 H1 S1 T1 b1 => ⟨dr, H0, F1, env, T1, r.step S1, Cm.All.mono (fun d2 k2 p F2 H2 S2 T2 hp nf o =>
      ⟨_, _, rfl, k2 _ F2 H2 T2 (S.trans (S1.trans S2 T2) T2) (((r.step S1).setVal i b1).newOwn S2 T1 hp (hb_none T1 (S.trans S1 T1) hp) nf o)⟩) (Cm.all_bind.mp k1)⟩) (Cm.all_bind.mp q)⟩
theorem s_parFV {i j : Nat} {x y : Str} {px py pt : Pos} {kt k2 pt2} (hc : X.calm = true) (hN : X.N.Nodup) (hi : X.N[i]? = some x) (hj : X.N[j]? = some y) (hij : i ≠ j)
    (hx : X.env.scope.names.lookup x = some .local) (hy : X.env.scope.names.lookup y = some .local) (ha : PE X a (tF X.K f1)) (hb : PE X b (tE X.K f2))
    (hw : swappedStores [.Tuple [.Name x px, .Name y py] kt pt] (.Tuple [a, b] k2 pt2) X.env = pure (some [x, y]))
    (hst : starEach (a :: b :: []) X.env = (false, eval a X.env) :: starEach (b :: []) X.env := by rfl) (hst2 : starEach (b :: []) X.env = (false, eval b X.env) :: starEach [] X.env := by rfl)
    (hs : swapsWithSole [.Tuple [.Name x px, .Name y py] kt pt] (.Tuple [a, b] k2 pt2) pos.line X.env = pure false := by rfl) :
    PS X (.Assign [.Tuple [.Name x px, .Name y py] kt pt] (.Tuple [a, b] k2 pt2) pos) (tS X.K (dParFV i j f1 f2)) :=
  ps_imp (ps_par hc hN hi hj hij hx hy (pa_cons ha (pa_cons hb pa_nil hst2) hst) hw hs) fun D σ H ⟨dr, F0, H0, F, env, s, S, r, q⟩ =>
    ⟨dr, H0, F, env, s, r, Cm.All.mono (fun d1 k1 p F1 H1 S1 T1 hp nf o => ⟨dr, H0, F1, env, T1, r.step S1, Cm.All.mono (fun d2 k2 v F2 H2 S2 T2 b2 =>
      ⟨_, _, rfl, k2 _ F2 H2 T2 (S.trans (S1.trans S2 T2) T2) (((r.newOwn S1 s hp (hb_none s S hp) nf o).step S2).setVal j b2)⟩) (Cm.all_bind.mp k1)⟩) (Cm.all_bind.mp q)⟩
theorem s_parFF {i j : Nat} {x y : Str} {px py pt : Pos} {kt k2 pt2} (hc : X.calm = true) (hN : X.N.Nodup) (hi : X.N[i]? = some x) (hj : X.N[j]? = some y) (hij : i ≠ j)
    (hx : X.env.scope.names.lookup x = some .local) (hy : X.env.scope.names.lookup y = some .local) (ha : PE X a (tF X.K f1)) (hb : PE X b (tF X.K f2))
    (hw : swappedStores [.Tuple [.Name x px, .Name y py] kt pt] (.Tuple [a, b] k2 pt2) X.env = pure (some [x, y]))
    (hst : starEach (a :: b :: []) X.env = (false, eval a X.env) :: starEach (b :: []) X.env := by rfl) (hst2 : starEach (b :: []) X.env = (false, eval b X.env) :: starEach [] X.env := by rfl)
    (hs : swapsWithSole [.Tuple [.Name x px, .Name y py] kt pt] (.Tuple [a, b] k2 pt2) pos.line X.env = pure false := by rfl) :
    PS X (.Assign [.Tuple [.Name x px, .Name y py] kt pt] (.Tuple [a, b] k2 pt2) pos) (tS X.K (dParFF i j f1 f2)) :=
  ps_imp (ps_par hc hN hi hj hij hx hy (pa_cons ha (pa_cons hb pa_nil hst2) hst) hw hs) fun D σ H ⟨dr, F0, H0, F, env, s, S, r, q⟩ =>
    ⟨dr, H0, F, env, s, r, Cm.All.mono (fun d1 k1 p F1 H1 S1 T1 hp nf o => ⟨dr, H0, F1, env, T1, r.step S1, Cm.All.mono (fun d2 k2 p2 F2 H2 S2 T2 hp2 nf2 o2 =>
      ⟨_, _, rfl, k2 _ F2 H2 T2 (S.trans (S1.trans S2 T2) T2) ((r.newOwn S1 s hp (hb_none s S hp) nf o).newOwn S2 T1 hp2 (hb_none T1 (S.trans S1 T1) hp2) nf2 o2)⟩) (Cm.all_bind.mp k1)⟩) (Cm.all_bind.mp q)⟩
theorem s_par3 {i j l : Nat} {x y z : Str} {px py pz pt : Pos} {kt k2 pt2} (hc : X.calm = true) (hN : X.N.Nodup) (hi : X.N[i]? = some x) (hj : X.N[j]? = some y) (hl : X.N[l]? = some z) (hij : i ≠ j) (hil : i ≠ l) (hjl : j ≠ l)
    (hx : X.env.scope.names.lookup x = some .local) (hy : X.env.scope.names.lookup y = some .local) (hz : X.env.scope.names.lookup z = some .local) (ha : PE X a (tE X.K f1)) (hb : PE X b (tE X.K f2)) (hd : PE X c (tE X.K f3))
    (hw : swappedStores [.Tuple [.Name x px, .Name y py, .Name z pz] kt pt] (.Tuple [a, b, c] k2 pt2) X.env = pure (some [x, y, z]))
    (hst : starEach (a :: b :: c :: []) X.env = (false, eval a X.env) :: starEach (b :: c :: []) X.env := by rfl) (hst2 : starEach (b :: c :: []) X.env = (false, eval b X.env) :: starEach (c :: []) X.env := by rfl) (hst3 : starEach (c :: []) X.env = (false, eval c X.env) :: starEach [] X.env := by rfl)
    (hs : swapsWithSole [.Tuple [.Name x px, .Name y py, .Name z pz] kt pt] (.Tuple [a, b, c] k2 pt2) pos.line X.env = pure false := by rfl) :
    PS X (.Assign [.Tuple [.Name x px, .Name y py, .Name z pz] kt pt] (.Tuple [a, b, c] k2 pt2) pos) (tS X.K (dPar3 i j l f1 f2 f3)) :=
  ps_imp (ps_par3 hc hN hi hj hl hij hil hjl hx hy hz (pa_cons ha (pa_cons hb (pa_cons hd pa_nil hst3) hst2) hst) hw hs) fun D σ H ⟨dr, F0, H0, F, env, s, S, r, q⟩ =>
    ⟨dr, H0, F, env, s, r, Cm.All.mono (fun d1 k1 v1 F1 H1 S1 T1 b1 => ⟨dr, H0, F1, env, T1, r.step S1, Cm.All.mono (fun d2 k2 v2 F2 H2 S2 T2 b2 => ⟨dr, H0, F2, env, T2, (r.step S1).step S2, Cm.All.mono (fun d3 k3 v3 F3 H3 S3 T3 b3 =>
      ⟨_, _, _, rfl, k3 _ F3 H3 T3 (S.trans (S1.trans (S2.trans S3 T3) T3) T3) (((((r.step S1).setVal i b1).step S2).setVal j b2).step S3 |>.setVal l b3)⟩) (Cm.all_bind.mp k2)⟩) (Cm.all_bind.mp k1)⟩) (Cm.all_bind.mp q)⟩
end
end Fs

set_option Elab.async false
set_option linter.all false
set_option maxRecDepth 100000
set_option maxHeartbeats 2000000
set_option autoImplicit false
namespace Fs
open PySem PySem.Spec PyProof.Rows L2

/-! ### [.. for .. in .. for .. in ..] -/
def lcGo2 (g : DTg) (t : DT) (fi1 : DEs) (g1 : DTg) (t1 : DT) (f : DE) (vs1 : List Nat) : Nat → List D → Env → Cm (List D)
  | _, [], _ => .ret []
  | n, d :: ds, env => (g d env).bind fun e1 => (t e1).bind fun b => if b = true then (fi1 e1).bind fun its => if n ≤ 1000000 ∧ its.length < 1000000 then (lcGo g1 t1 f its (wipeE e1 vs1)).bind fun ys => (lcGo2 g t fi1 g1 t1 f vs1 (n + ys.length) ds env).bind fun zs => .ret (ys ++ zs) else .bad
    else lcGo2 g t fi1 g1 t1 f vs1 n ds env
def dLc2 (fi : DEs) (g : DTg) (t : DT) (fi1 : DEs) (g1 : DTg) (t1 : DT) (f : DE) (vs vs1 : List Nat) : DE := fun env => (fi env).bind fun items => (lcGo2 g t fi1 g1 t1 f vs1 0 items (wipeE env vs)).bind fun ys => .ret (.list ys)
/-- a new list at Dd does not touch the slots -/
theorem rs_upd {K : PySem.W.Frag} {dr : Dr} {B F0 H0 F H : Hp} {σ σ0 : L2.St} {env env0 : Env} (r0 : Rs K dr B F0 H0 σ env) (rr : Rs K dr B F H σ env) {Dd : Addr} (hD0 : H0 Dd = none) (o : HO) : Rs K dr B F (upd H Dd o) σ env := by
  refine ⟨rr.len, fun j s e => ?_, rr.apart⟩
  obtain ⟨o1, h1, h2⟩ := rr.ok j s e
  refine ⟨o1, h1, ?_⟩
  cases s with
  | no => trivial
  | val d => exact h2
  | own d =>
    obtain ⟨p, e1, b1, f1, n1, w1⟩ := h2
    refine ⟨p, e1, b1, f1, n1, ?_⟩
    have hp : p ≠ Dd := fun z => by
      subst z
      obtain ⟨o3, g1, g2⟩ := r0.ok j _ e
      rw [h1] at g1
      cases g1
      obtain ⟨p3, e3, _, _, _, w3⟩ := g2
      rw [e1] at e3
      cases e3
      obtain ⟨u, hu⟩ := w3.there
      rw [hD0] at hu; cases hu
    exact w1.at (upd_ne hp)
theorem own_ne {K : PySem.W.Frag} {F H : Hp} {p Dd : Addr} {o : HO} {d : D} (hp : p ≠ Dd) (w : OwnAt K F H p d) : OwnAt K F (upd H Dd o) p d := w.at (upd_ne hp)
theorem rs_base {K : PySem.W.Frag} {dr : Dr} {B F0 H0 F H : Hp} {σ : L2.St} {env : Env} (r0 : Rs K dr B F0 H0 σ env) (rr : Rs K dr B F H σ env) {Dd : Addr} (hD0 : H0 Dd = none) (o : HO) : Rs K dr (upd B Dd o) F H σ env := by
  refine ⟨rr.len, fun j s e => ?_, rr.apart⟩
  obtain ⟨o1, h1, h2⟩ := rr.ok j s e
  refine ⟨o1, h1, ?_⟩
  cases s with
  | no => trivial
  | val d => exact h2
  | own d =>
    obtain ⟨p, e1, b1, f1, n1, w1⟩ := h2
    have hp : p ≠ Dd := fun z => by
      subst z
      obtain ⟨o3, g1, g2⟩ := r0.ok j _ e
      rw [h1] at g1
      cases g1
      obtain ⟨p3, e3, _, _, _, w3⟩ := g2
      rw [e1] at e3
      cases e3
      obtain ⟨u, hu⟩ := w3.there
      rw [hD0] at hu; cases hu
    exact ⟨p, e1, by rw [upd_ne hp]; exact b1, f1, n1, w1⟩
theorem rs_upd2 {K : PySem.W.Frag} {dr : Dr} {B F H : Hp} {σ : L2.St} {env : Env} {Dd : Addr} {o o2 : HO} (rr : Rs K dr (upd B Dd o2) F H σ env) : Rs K dr (upd B Dd o2) F (upd H Dd o) σ env := by
  refine ⟨rr.len, fun j s e => ?_, rr.apart⟩
  obtain ⟨o1, h1, h2⟩ := rr.ok j s e
  refine ⟨o1, h1, ?_⟩
  cases s with
  | no => trivial
  | val d => exact h2
  | own d =>
    obtain ⟨p, e1, b1, f1, n1, w1⟩ := h2
    have hp : p ≠ Dd := fun z => by
      subst z
      rw [upd_same] at b1
      cases b1
    exact ⟨p, e1, b1, f1, n1, own_ne hp w1⟩
section
variable {X : Cx} {tg e a b c elt iter tg1 iter1 : Expr} {es : List Expr} {f f1 f2 f3 : DE} {fs fi fi1 : DEs} {t t1 u : DT} {pos : Pos} {is is1 js : List Nat} {g g1 : DTg} {gs : DTgs}
theorem lc2_red {K : PySem.W.Frag} {vs0 vs1 : List Nat} (hsub : ∀ i ∈ is, i ∈ vs0) (hsub1 : ∀ i ∈ is1, i ∈ vs1) {σ : L2.St} {H : Hp} {Q : VK} (h0 : tF K (dLc2 fi g t fi1 g1 t1 f vs0 vs1) σ H Q) :
    tLc2 (tI K fi) (tG K is g) (tT K t) (tI K fi1) (tG K is1 g1) (tT K t1) (tE K f) vs0 vs1 σ H Q :=
  let ⟨dr, B, F, env, T0, r, q⟩ := h0
  ⟨dr, B, F, env, T0, r, Cm.All.mono (by
    intro items k J F1 H1 S1 T1 ok1 Dd hD
    have k := Cm.all_bind.mp k
    obtain ⟨S2, T2, nf⟩ := lay_own T1 hD (.lst [])
    have ndD := not_dr T1 hD
    have hD0 : H Dd = none := by
      cases z : H Dd with
      | none => rfl
      | some o => have := S1.keep Dd o ndD z; rw [hD] at this; cases this
    refine ⟨fun i m H2 => m = items.length - i ∧ i ≤ items.length ∧ ∃ F2 acc ds, Stt dr F2 H2 ∧ Fs.Step dr F H F2 H2 ∧ (∀ a o, F1 a = some o → F2 a = some o) ∧ F2 Dd = none ∧ H2 Dd = some (.lst acc) ∧ DpAll K F2 acc ds ∧
        (lcGo2 g t fi1 g1 t1 f vs1 ds.length (items.drop i) (wipeE env vs0)).All (fun ys => ∀ p F' H', Fs.Step dr F H F' H' → Stt dr F' H' → H p = none → F' p = none → OwnAt K F' H' p (.list (ds ++ ys)) → Q (.ref p) H') ∧ Rs K dr B F2 H2 σ env,
      ⟨items.length, by simp, Nat.zero_le _, F1, [], [], T2, S1.trans S2 T2, fun _ _ h => h, nf, upd_same, .nil, k, (r.step S1).step S2⟩, ?_⟩
    rintro i m H2 ⟨rfl, hi2, F2, acc, ds, T3, S3, up3, nf3, hv3, ha3, q3, r3⟩
    by_cases hlt : i < items.length
    · have hd : items[i]? = some items[i] := by simp [hlt]
      obtain ⟨go, yl⟩ := ok1.go F2 H2 i _ up3 T3 hd
      rw [List.drop_eq_getElem_cons hlt] at q3
      refine .inr ⟨go, fun H4 => ∃ F4 acc ds, Stt dr F4 H4 ∧ Fs.Step dr F H F4 H4 ∧ (∀ a o, F1 a = some o → F4 a = some o) ∧ F4 Dd = none ∧ H4 Dd = some (.lst acc) ∧ DpAll K F4 acc ds ∧
        (lcGo2 g t fi1 g1 t1 f vs1 ds.length (items.drop (i + 1)) (wipeE env vs0)).All (fun ys => ∀ p F' H', Fs.Step dr F H F' H' → Stt dr F' H' → H p = none → F' p = none → OwnAt K F' H' p (.list (ds ++ ys)) → Q (.ref p) H') ∧ Rs K dr B F4 H4 σ env, ?_, fun x H4 y => ?_⟩
      · rintro H4 ⟨F4, acc4, ds4, h⟩
        exact ⟨items.length - (i + 1), by omega, rfl, hlt, F4, acc4, ds4, h⟩
      · obtain ⟨F4, S4, T4, rv⟩ := yl x H4 y
        have rw4 := (rs_base r (r3.step S4) hD0 (.lst [])).wipe vs0
        refine ⟨dr, upd B Dd (.lst []), F4, _, _, T4, rw4, rv, Cm.All.mono ?_ (Cm.all_bind.mp q3)⟩
        intro e1 k1 σ1 r1 kp
        refine ⟨wipe_keeps kp hsub, dr, upd B Dd (.lst []), F4, e1, T4, r1, Cm.All.mono ?_ (Cm.all_bind.mp k1)⟩
        intro bb k2 F5 H5 S5 T5
        have nf4 : F4 Dd = none := S4.still nf3 hv3
        have hv4 : H4 Dd = some (.lst acc) := S4.keep _ _ ndD hv3
        have nf5 : F5 Dd = none := S5.still nf4 hv4
        have hv5 : H5 Dd = some (.lst acc) := S5.keep _ _ ndD hv4
        have up5 : ∀ a o, F1 a = some o → F5 a = some o := fun a o h => S5.up a o (S4.up a o (up3 a o h))
        have SS5 := (S3.trans S4 T4).trans S5 T5
        have ha5 := dpa_up S5.up _ _ (dpa_up S4.up _ _ ha3)
        cases bb with
        | false => exact ⟨F5, acc, ds, T5, SS5, up5, nf5, hv5, ha5, k2, (r3.step S4).step S5⟩
        | true =>
          refine ⟨dr, upd B Dd (.lst []), F5, e1, T5, r1.step S5, Cm.All.mono ?_ (Cm.all_bind.mp k2)⟩
          intro its k3 J1 F6 H6 S6 T6 ok2
          split at k3
          · rename_i hlen
            have nf6 : F6 Dd = none := S6.still nf5 hv5
            have hv6 : H6 Dd = some (.lst acc) := S6.keep _ _ ndD hv5
            have up6 : ∀ a o, F1 a = some o → F6 a = some o := fun a o h => S6.up a o (up5 a o h)
            have SS6 := SS5.trans S6 T6
            have ha6 := dpa_up S6.up _ _ ha5
            have k3 := Cm.all_bind.mp k3
            refine ⟨fun j kk H7 => kk = its.length - j ∧ j ≤ its.length ∧ ∃ F7 acc7 ds7, Stt dr F7 H7 ∧ Fs.Step dr F H F7 H7 ∧ (∀ a o, F1 a = some o → F7 a = some o) ∧ (∀ a o, F6 a = some o → F7 a = some o) ∧ F7 Dd = none ∧ H7 Dd = some (.lst acc7) ∧ DpAll K F7 acc7 ds7 ∧ acc7.length ≤ ds.length + j ∧
                (lcGo g1 t1 f (its.drop j) (wipeE e1 vs1)).All (fun ys => (lcGo2 g t fi1 g1 t1 f vs1 (ds7.length + ys.length) (items.drop (i + 1)) (wipeE env vs0)).All (fun zs => ∀ p F' H', Fs.Step dr F H F' H' → Stt dr F' H' → H p = none → F' p = none → OwnAt K F' H' p (.list (ds7 ++ (ys ++ zs))) → Q (.ref p) H')) ∧ Rs K dr B F7 H7 σ env ∧ Rs K dr (upd B Dd (.lst [])) F7 H7 σ1 e1,
              ⟨its.length, by simp, Nat.zero_le _, F6, acc, ds, T6, SS6, up6, fun _ _ h => h, nf6, hv6, ha6, by rw [dpa_len ha6]; exact Nat.le_refl _, ?_, ((r3.step S4).step S5).step S6, (r1.step S5).step S6⟩, ?_⟩
            · exact k3.mono fun ys k4 => (Cm.all_bind.mp k4).mono fun zs k5 => k5
            rintro j kk H7 ⟨rfl, hj, F7, acc7, ds7, T7, S7, up7, up76, nf7, hv7, ha7, hl7, q7, r7, r7'⟩
            by_cases hjl : j < its.length
            · have hd7 : its[j]? = some its[j] := by simp [hjl]
              obtain ⟨go7, yl7⟩ := ok2.go F7 H7 j _ up76 T7 hd7
              rw [List.drop_eq_getElem_cons hjl] at q7
              refine .inr ⟨go7, fun H8 => ∃ F8 acc8 ds8, Stt dr F8 H8 ∧ Fs.Step dr F H F8 H8 ∧ (∀ a o, F1 a = some o → F8 a = some o) ∧ (∀ a o, F6 a = some o → F8 a = some o) ∧ F8 Dd = none ∧ H8 Dd = some (.lst acc8) ∧ DpAll K F8 acc8 ds8 ∧ acc8.length ≤ ds.length + (j + 1) ∧
                (lcGo g1 t1 f (its.drop (j + 1)) (wipeE e1 vs1)).All (fun ys => (lcGo2 g t fi1 g1 t1 f vs1 (ds8.length + ys.length) (items.drop (i + 1)) (wipeE env vs0)).All (fun zs => ∀ p F' H', Fs.Step dr F H F' H' → Stt dr F' H' → H p = none → F' p = none → OwnAt K F' H' p (.list (ds8 ++ (ys ++ zs))) → Q (.ref p) H')) ∧ Rs K dr B F8 H8 σ env ∧ Rs K dr (upd B Dd (.lst [])) F8 H8 σ1 e1, ?_, fun x H8 y => ?_⟩
              · rintro H8 ⟨F8, acc8, ds8, h⟩
                exact ⟨its.length - (j + 1), by omega, rfl, hjl, F8, acc8, ds8, h⟩
              · obtain ⟨F8, S8, T8, rv8⟩ := yl7 x H8 y
                have rw8 := (r7'.step S8).wipe vs1
                refine ⟨dr, upd B Dd (.lst []), F8, _, _, T8, rw8, rv8, Cm.All.mono ?_ (Cm.all_bind.mp q7)⟩
                intro e2 k8 σ2 r8 kp8
                refine ⟨wipe_keeps kp8 hsub1, dr, upd B Dd (.lst []), F8, e2, T8, r8, Cm.All.mono ?_ (Cm.all_bind.mp k8)⟩
                intro bb k9 F9 H9 S9 T9
                have nf8 : F8 Dd = none := S8.still nf7 hv7
                have hv8 : H8 Dd = some (.lst acc7) := S8.keep _ _ ndD hv7
                have nf9 : F9 Dd = none := S9.still nf8 hv8
                have hv9 : H9 Dd = some (.lst acc7) := S9.keep _ _ ndD hv8
                have up9 : ∀ a o, F1 a = some o → F9 a = some o := fun a o h => S9.up a o (S8.up a o (up7 a o h))
                have up96 : ∀ a o, F6 a = some o → F9 a = some o := fun a o h => S9.up a o (S8.up a o (up76 a o h))
                have SS9 := (S7.trans S8 T8).trans S9 T9
                have ha9 := dpa_up S9.up _ _ (dpa_up S8.up _ _ ha7)
                cases bb with
                | false => exact ⟨F9, acc7, ds7, T9, SS9, up9, up96, nf9, hv9, ha9, Nat.le_succ_of_le hl7, k9, (r7.step S8).step S9, (r7'.step S8).step S9⟩
                | true =>
                  refine ⟨dr, upd B Dd (.lst []), F9, e2, T9, r8.step S9, Cm.All.mono ?_ (Cm.all_bind.mp k9)⟩
                  intro yd k10 yv F10 H10 S10 T10 ry
                  split at k10
                  · rename_i hfl
                    have nf10 : F10 Dd = none := S10.still nf9 hv9
                    have hv10 : H10 Dd = some (.lst acc7) := S10.keep _ _ ndD hv9
                    have hbig : (3000000 : Nat) < sizeLine := by decide
                    refine ⟨acc7, hv10, by omega, ?_⟩
                    have T11 : Stt dr F10 (upd H10 Dd (.lst (acc7 ++ [yv]))) := ⟨fun a u e => by rw [upd_ne (ne_of_none e nf10)]; exact T10.sub _ _ e, T10.drw.upd ndD, T10.nodr⟩
                    have SS10 := SS9.trans S10 T10
                    have rr10 := ((r7.step S8).step S9).step S10
                    have rr10' := ((r7'.step S8).step S9).step S10
                    refine ⟨F10, acc7 ++ [yv], ds7 ++ [yd], T11, ⟨SS10.up, fun a u n e => by rw [upd_ne (ne_of_none e hD0)]; exact SS10.keep a u n e, SS10.new⟩, fun a o h => S10.up a o (up9 a o h), fun a o h => S10.up a o (up96 a o h), nf10, upd_same, dpa_app (dpa_up S10.up _ _ ha9) (dpa_one (rp_flat ry hfl)), by rw [List.length_append]; exact Nat.succ_le_succ hl7, ?_, ?_, ?_⟩
                    · refine Cm.All.mono ?_ (Cm.all_bind.mp k10)
                      intro ys k11
                      rw [List.length_append, show (ds7.length + [yd].length + ys.length) = ds7.length + (yd :: ys).length by simp only [List.length_cons, List.length_nil]; omega]
                      exact Cm.All.mono (fun zs k12 p F' H' a1 a2 a3 a4 a5 => k12 p F' H' a1 a2 a3 a4 (by simpa using a5)) (show Cm.All _ (lcGo2 g t fi1 g1 t1 f vs1 (ds7.length + (yd :: ys).length) (items.drop (i + 1)) (wipeE env vs0)) from k11)
                    · exact rs_upd (σ0 := σ) (env0 := env) r rr10 hD0 _
                    · exact rs_upd2 rr10'
                  · exact k10.elim
            · have e : j = its.length := by omega
              subst e
              rw [List.drop_length] at q7
              refine .inl ⟨ok2.stop F7 H7 _ up76 T7 (Nat.le_refl _), F7, acc7, ds7, T7, S7, up7, nf7, hv7, ha7, ?_, r7⟩
              exact q7
          · exact k3.elim
    · have e : i = items.length := by omega
      subst e
      rw [List.drop_length] at q3
      refine .inl ⟨ok1.stop F2 H2 _ up3 T3 (Nat.le_refl _), ?_⟩
      have q3' := q3 Dd F2 H2 S3 T3 hD0 nf3
      rw [List.append_nil] at q3'
      exact q3' ⟨acc, hv3, ha3⟩) (Cm.all_bind.mp q)⟩
theorem f_lc2 {ifs ifs1 : List Expr} {scope : Scope} {own : List (Str × Nat)} {vs1 : List Nat} (hc : X.calm = true) (hN : X.N.Nodup) (hi : PI X tg iter (tI X.K fi)) (ok : BlkOk X.N X.env.scope scope own) (hv : ∀ i ∈ vs1, i ∈ own.map (·.2))
    (hg : ∀ (s : Shared) (H : Hp) (C : Addr) (cl : List (Str × Addr)) (fp : List Addr), PG (X.blk s H scope (compEnvC scope cl C X.env) fp) tg (tG X.K is g)) (ht : ∀ (s : Shared) (H : Hp) (C : Addr) (cl : List (Str × Addr)) (fp : List Addr), PTs (X.blk s H scope (compEnvC scope cl C X.env) fp) ifs (tT X.K t))
    (hi1 : ∀ (s : Shared) (H : Hp) (C : Addr) (cl : List (Str × Addr)) (fp : List Addr), PI (X.blk s H scope (compEnvC scope cl C X.env) fp) tg1 iter1 (tI X.K fi1))
    (hg1 : ∀ (s : Shared) (H : Hp) (C : Addr) (cl : List (Str × Addr)) (fp : List Addr), PG (X.blk s H scope (compEnvC scope cl C X.env) fp) tg1 (tG X.K is1 g1)) (ht1 : ∀ (s : Shared) (H : Hp) (C : Addr) (cl : List (Str × Addr)) (fp : List Addr), PTs (X.blk s H scope (compEnvC scope cl C X.env) fp) ifs1 (tT X.K t1))
    (he : ∀ (s : Shared) (H : Hp) (C : Addr) (cl : List (Str × Addr)) (fp : List Addr), PE (X.blk s H scope (compEnvC scope cl C X.env) fp) elt (tE X.K f)) (hsub : ∀ i ∈ is, i ∈ own.map (·.2)) (hsub1 : ∀ i ∈ is1, i ∈ vs1) (hs : ∀ x, foldedSetIterable iter X.env x = pure x := by intro _; rfl) (hs1 : ∀ env x, foldedSetIterable iter1 env x = pure x := by intro _ _; rfl) :
    PE X (.ListComp elt [⟨tg, iter, ifs, 0⟩, ⟨tg1, iter1, ifs1, 0⟩] scope pos) (tF X.K (dLc2 fi g t fi1 g1 t1 f (own.map (·.2)) vs1)) :=
  pe_imp (pe_lc2 hc hN hi ok hv hg ht hi1 hg1 ht1 he hs hs1) fun σ H Q h => lc2_red hsub hsub1 h
theorem s_setLc2V {i : Nat} {y : Str} {py spos : Pos} {ifs ifs1 : List Expr} {scope : Scope} {own : List (Str × Nat)} {vs1 : List Nat} (hc : X.calm = true) (hN : X.N.Nodup) (hy : X.N[i]? = some y) (hyl : X.env.scope.names.lookup y = some .local)
    (hsw : swapsWith (.ListComp elt [⟨tg, iter, ifs, 0⟩, ⟨tg1, iter1, ifs1, 0⟩] scope pos) (some (.Name y py)) spos.line X.env = pure true) (hi : PI X tg iter (tI X.K fi)) (ok : BlkOk X.N X.env.scope scope own) (hv : ∀ i ∈ vs1, i ∈ own.map (·.2))
    (hg : ∀ (s : Shared) (H : Hp) (C : Addr) (cl : List (Str × Addr)) (fp : List Addr), PG (X.blk s H scope (compEnvC scope cl C X.env) fp) tg (tG X.K is g)) (ht : ∀ (s : Shared) (H : Hp) (C : Addr) (cl : List (Str × Addr)) (fp : List Addr), PTs (X.blk s H scope (compEnvC scope cl C X.env) fp) ifs (tT X.K t))
    (hi1 : ∀ (s : Shared) (H : Hp) (C : Addr) (cl : List (Str × Addr)) (fp : List Addr), PI (X.blk s H scope (compEnvC scope cl C X.env) fp) tg1 iter1 (tI X.K fi1))
    (hg1 : ∀ (s : Shared) (H : Hp) (C : Addr) (cl : List (Str × Addr)) (fp : List Addr), PG (X.blk s H scope (compEnvC scope cl C X.env) fp) tg1 (tG X.K is1 g1)) (ht1 : ∀ (s : Shared) (H : Hp) (C : Addr) (cl : List (Str × Addr)) (fp : List Addr), PTs (X.blk s H scope (compEnvC scope cl C X.env) fp) ifs1 (tT X.K t1))
    (he : ∀ (s : Shared) (H : Hp) (C : Addr) (cl : List (Str × Addr)) (fp : List Addr), PE (X.blk s H scope (compEnvC scope cl C X.env) fp) elt (tE X.K f)) (hsub : ∀ i ∈ is, i ∈ own.map (·.2)) (hsub1 : ∀ i ∈ is1, i ∈ vs1) (hs : ∀ x, foldedSetIterable iter X.env x = pure x := by intro _; rfl) (hs1 : ∀ env x, foldedSetIterable iter1 env x = pure x := by intro _ _; rfl) :
    PS X (.Assign [.Name y py] (.ListComp elt [⟨tg, iter, ifs, 0⟩, ⟨tg1, iter1, ifs1, 0⟩] scope pos) spos) (tS X.K (dSet i (dOnlyL (dLc2 fi g t fi1 g1 t1 f (own.map (·.2)) vs1)))) :=
  ps_imp (ps_setLc2 hc hN hy hyl hsw hi ok hv hg ht hi1 hg1 ht1 he hs hs1) fun D σ H ⟨dr, F0, H0, F, env, s, S, r, q⟩ => by
    refine lc2_red hsub hsub1 (Q := fun x H1 => gName i x σ H1 D.nx) ⟨dr, H0, F, env, s, r, Cm.All.mono ?_ (Cm.all_bind.mp (Cm.all_bind.mp q))⟩
    intro d k p F1 H1 S1 T1 hp nf o
    rcases dict_no o with ⟨ds, rfl⟩ | ⟨kvs, rfl⟩
    · obtain ⟨vs, e1, ha⟩ := o
      have nd : ¬ dr.has p := not_dr s hp
      obtain ⟨T2, up⟩ := freeze T1 e1 nf nd
      have S2 : Fs.Step dr F H (upd F1 p (.lst vs)) H1 := ⟨fun a u e => up _ _ (S1.up a u e), S1.keep, fun a u e => by
        by_cases e2 : a = p
        · right; rw [e2]; exact hp
        · rw [upd_ne e2] at e; exact S1.new a u e⟩
      exact k _ (upd F1 p (.lst vs)) H1 T2 (S.trans S2 T2) ((r.step S2).setVal i (.dp (.lst (.inl (.inl upd_same)) (dpa_up up _ _ ha))))
    · exact k.elim
theorem s_setLc2F {i : Nat} {y : Str} {py spos : Pos} {ifs ifs1 : List Expr} {scope : Scope} {own : List (Str × Nat)} {vs1 : List Nat} (hc : X.calm = true) (hN : X.N.Nodup) (hy : X.N[i]? = some y) (hyl : X.env.scope.names.lookup y = some .local)
    (hsw : swapsWith (.ListComp elt [⟨tg, iter, ifs, 0⟩, ⟨tg1, iter1, ifs1, 0⟩] scope pos) (some (.Name y py)) spos.line X.env = pure true) (hi : PI X tg iter (tI X.K fi)) (ok : BlkOk X.N X.env.scope scope own) (hv : ∀ i ∈ vs1, i ∈ own.map (·.2))
    (hg : ∀ (s : Shared) (H : Hp) (C : Addr) (cl : List (Str × Addr)) (fp : List Addr), PG (X.blk s H scope (compEnvC scope cl C X.env) fp) tg (tG X.K is g)) (ht : ∀ (s : Shared) (H : Hp) (C : Addr) (cl : List (Str × Addr)) (fp : List Addr), PTs (X.blk s H scope (compEnvC scope cl C X.env) fp) ifs (tT X.K t))
    (hi1 : ∀ (s : Shared) (H : Hp) (C : Addr) (cl : List (Str × Addr)) (fp : List Addr), PI (X.blk s H scope (compEnvC scope cl C X.env) fp) tg1 iter1 (tI X.K fi1))
    (hg1 : ∀ (s : Shared) (H : Hp) (C : Addr) (cl : List (Str × Addr)) (fp : List Addr), PG (X.blk s H scope (compEnvC scope cl C X.env) fp) tg1 (tG X.K is1 g1)) (ht1 : ∀ (s : Shared) (H : Hp) (C : Addr) (cl : List (Str × Addr)) (fp : List Addr), PTs (X.blk s H scope (compEnvC scope cl C X.env) fp) ifs1 (tT X.K t1))
    (he : ∀ (s : Shared) (H : Hp) (C : Addr) (cl : List (Str × Addr)) (fp : List Addr), PE (X.blk s H scope (compEnvC scope cl C X.env) fp) elt (tE X.K f)) (hsub : ∀ i ∈ is, i ∈ own.map (·.2)) (hsub1 : ∀ i ∈ is1, i ∈ vs1) (hs : ∀ x, foldedSetIterable iter X.env x = pure x := by intro _; rfl) (hs1 : ∀ env x, foldedSetIterable iter1 env x = pure x := by intro _ _; rfl) :
    PS X (.Assign [.Name y py] (.ListComp elt [⟨tg, iter, ifs, 0⟩, ⟨tg1, iter1, ifs1, 0⟩] scope pos) spos) (tS X.K (dSetF i (dLc2 fi g t fi1 g1 t1 f (own.map (·.2)) vs1))) :=
  ps_imp (ps_setLc2 hc hN hy hyl hsw hi ok hv hg ht hi1 hg1 ht1 he hs hs1) fun D σ H ⟨dr, F0, H0, F, env, s, S, r, q⟩ => by
    refine lc2_red hsub hsub1 (Q := fun x H1 => gName i x σ H1 D.nx) ⟨dr, H0, F, env, s, r, Cm.All.mono ?_ (Cm.all_bind.mp q)⟩
    intro d k p F' H' S' T' hp nf o
    exact k _ F' H' T' (S.trans S' T') (r.newOwn S' s hp (hb_none s S hp) nf o)
end
end Fs

set_option Elab.async false
set_option linter.all false
set_option maxRecDepth 100000
set_option maxHeartbeats 2000000
set_option autoImplicit false
namespace Fs
open PySem PySem.Spec PyProof.Rows L2

/-! ### slices -/
theorem dpa_takeN {K : PySem.W.Frag} {F : Hp} : ∀ {vs : List V} {ds : List D} (n : Nat), DpAll K F vs ds → DpAll K F (vs.take n) (ds.take n)
  | _, _, 0, _ => .nil
  | _, _, _ + 1, .nil => .nil
  | _, _, n + 1, .cons a r => .cons a (dpa_takeN n r)
theorem dpa_dropN {K : PySem.W.Frag} {F : Hp} : ∀ {vs : List V} {ds : List D} (n : Nat), DpAll K F vs ds → DpAll K F (vs.drop n) (ds.drop n)
  | _, _, 0, r => r
  | _, _, _ + 1, .nil => .nil
  | _, _, n + 1, .cons a r => dpa_dropN n r
def cutD (ds : List D) (lo hi : Option Int) : List D := (ds.drop (HT.sIx ds.length 0 lo)).take (HT.sIx ds.length ds.length hi - HT.sIx ds.length 0 lo)
def tO (K : PySem.W.Frag) (f : Env → Cm (Option Int)) : TO := fun σ H Q => ∃ dr B F env, Stt dr F H ∧ Rs K dr B F H σ env ∧
  (f env).All fun o => ∀ F' H', Fs.Step dr F H F' H' → Stt dr F' H' → Q o H'
def dNoP : Env → Cm (Option Int) := fun _ => .ret none
def dPt (f : DE) : Env → Cm (Option Int) := fun env => (f env).bind fun d => match d with
  | .int i => .ret (some i)
  | _ => .bad
def vSlice (d : D) (lo hi : Option Int) : Cm D := match d with
  | .list ds => .ret (.list (cutD ds lo hi))
  | .tuple ds => .ret (.tuple (cutD ds lo hi))
  | _ => .bad
def dSl (f : DE) (l h : Env → Cm (Option Int)) : DE := fun env => (f env).bind fun d => (l env).bind fun lo => (h env).bind fun hi => vSlice d lo hi
section
variable {X : Cx} {e a b c : Expr} {f f1 f2 f3 : DE} {lo hi : Option Expr} {l h : Env → Cm (Option Int)} {pos p2 : Pos}
theorem po_imp {e : Option Expr} {t t' : TO} (h : PO X e t) (i : ∀ σ H Q, t' σ H Q → t σ H Q) : PO X e t' := ⟨fun p s σ H Q I q => h.run p s σ H Q I (i _ _ _ q)⟩
theorem o_none : PO X none (tO X.K dNoP) := po_imp po_none fun σ H Q ⟨dr, B, F, env, s, r, q⟩ => q F H .refl s
theorem o_some (h : PE X e (tE X.K f)) : PO X (some e) (tO X.K (dPt f)) := po_imp (po_some h) fun σ H Q ⟨dr, B, F, env, s, r, q⟩ => ⟨dr, B, F, env, s, r, Cm.All.mono (fun d k v F1 H1 S1 T1 b1 => by
  cases d with
  | int i => cases rp_int b1; exact ⟨i, rfl, k F1 H1 S1 T1⟩
  | none => exact k.elim
  | bool _ => exact k.elim
  | str _ => exact k.elim
  | list _ => exact k.elim
  | tuple _ => exact k.elim
  | dict _ => exact k.elim) (Cm.all_bind.mp q)⟩
theorem e_slice (he : PE X e (tB X.K f)) (hl : PO X lo (tO X.K l)) (hh : PO X hi (tO X.K h)) : PE X (.Subscript e (.Slice lo hi none p2) pos) (tE X.K (dSl f l h)) :=
  pe_imp (pe_slice (SlR.or sl_list sl_tupA) he hl hh) fun σ H Q ⟨dr, B, F, env, s, r, q⟩ => ⟨dr, B, F, env, s, r, Cm.All.mono (by
    intro d k v F1 H1 S1 T1 b1
    refine ⟨dr, B, F1, env, T1, r.step S1, Cm.All.mono ?_ (Cm.all_bind.mp k)⟩
    intro o1 k1 F2 H2 S2 T2
    refine ⟨dr, B, F2, env, T2, (r.step S1).step S2, Cm.All.mono ?_ (Cm.all_bind.mp k1)⟩
    intro o2 k2 F3 H3 S3 T3
    have b3 := (b1.step S2).step S3
    have SS := (S1.trans S2 T2).trans S3 T3
    cases d with
    | list ds =>
      obtain ⟨p, vs, rfl, h1, h2⟩ := bp_list T3 b3
      have hlen := dpa_len h2
      refine .inl ⟨p, vs, rfl, h1, fun q hq => ?_⟩
      obtain ⟨S4, T4⟩ := lay T3 hq (.lst (cutV vs o1 o2))
      refine k2 _ _ _ (SS.trans S4 T4) T4 (.dp (.lst (.inl (.inl upd_same)) (dpa_up S4.up _ _ ?_)))
      unfold cutV cutD
      rw [hlen]
      exact dpa_takeN _ (dpa_dropN _ h2)
    | tuple ds =>
      obtain ⟨p, vs, rfl, h1, h2⟩ := bp_tup b3
      have hlen := dpa_len h2
      refine .inr ⟨p, vs, rfl, sqt_up T3.sub h1, fun hw => ?_, fun hw q hq => ?_⟩
      · have e1 : cutD ds o1 o2 = ds := by
          unfold cutD
          rw [← hlen, hw.1, hw.2, List.drop_zero, Nat.sub_zero, hlen, List.take_length]
        have k3 : vSlice (.tuple ds) o1 o2 = .ret (.tuple ds) := by
          show Cm.ret (PyData.tuple (cutD ds o1 o2)) = _
          rw [e1]
        rw [k3] at k2
        exact k2 _ _ _ SS T3 (.dp (.tup h1 h2))
      · obtain ⟨S4, T4⟩ := lay T3 hq (.tup (cutV vs o1 o2))
        refine k2 _ _ _ (SS.trans S4 T4) T4 (.dp (.tup (.inl (.inl upd_same)) (dpa_up S4.up _ _ ?_)))
        unfold cutV cutD
        rw [hlen]
        exact dpa_takeN _ (dpa_dropN _ h2)
    | none => exact k2.elim
    | bool _ => exact k2.elim
    | int _ => exact k2.elim
    | str _ => exact k2.elim
    | dict _ => exact k2.elim) (Cm.all_bind.mp q)⟩
/-- l.index(x): the first place of an equal one -/
def vIndex : D → List D → Cm D
  | .list ds, [d] => if SeqAt.shaped (.list ds) = true ∧ SeqAt.shaped d = true ∧ flatD d = true then match ds.findIdx? (fun z => PyData.eqv z d) with
      | some j => .ret (.int (j : Nat))
      | none => .bad
    else .bad
  | _, _ => .bad
def dIndex (f f1 : DE) : DE := fun env => (f env).bind fun d => match d with
  | .list ds => (f1 env).bind fun x => vIndex (.list ds) [x]
  | _ => .bad
theorem index_red {K : PySem.W.Frag} {σ : L2.St} {H : Hp} {Q : VK} (h : tE K (dIndex f f1) σ H Q) : tBM K "list" (rIndexD K) (tB K f) (tCons (tE K f1) tNil) σ H Q := by
  obtain ⟨dr, B, F, env, s, r, q⟩ := h
  refine ⟨dr, B, F, env, s, r, Cm.All.mono (fun d k v F1 H1 S1 T1 b1 => ?_) (Cm.all_bind.mp q)⟩
  cases d with
  | list ds =>
    obtain ⟨p, vs, rfl, h1, h2⟩ := bp_list T1 b1
    refine ⟨.inl ⟨rfl, vs, h1⟩, dr, B, F1, env, T1, r.step S1, Cm.All.mono (fun x k1 w F2 H2 S2 T2 b2 => ?_) (Cm.all_bind.mp k)⟩
    show rIndexD K _ [w] H2 Q
    have k1 : Cm.All _ (if SeqAt.shaped (.list ds) = true ∧ SeqAt.shaped x = true ∧ flatD x = true then (match ds.findIdx? (fun z => PyData.eqv z x) with
      | some j => Cm.ret (PyData.int (j : Nat))
      | none => .bad) else .bad) := k1
    by_cases hc : SeqAt.shaped (.list ds) = true ∧ SeqAt.shaped x = true ∧ flatD x = true
    · rw [if_pos hc] at k1
      cases hj : ds.findIdx? (fun z => PyData.eqv z x) with
      | some j =>
        rw [hj] at k1
        have b3 := b1.step S2
        obtain ⟨p', vs', e', h1', h2'⟩ := bp_list T2 b3
        cases e'
        rw [List.findIdx?_eq_some_iff_getElem] at hj
        obtain ⟨hjl, he, hno⟩ := hj
        refine ⟨p, w, x, ds, j, ds[j], rfl, rfl, .lst h1' (dpa_up T2.sub _ _ h2'), dp_up T2.sub _ _ (rp_flat b2 hc.2.2), hc.1, hc.2.1, List.getElem?_eq_getElem hjl, he, fun m z hm hz => ?_, k1 _ F2 H2 (S1.trans S2 T2) T2 (.dp (.int _))⟩
        obtain ⟨hml, rfl⟩ := List.getElem?_eq_some_iff.mp hz
        have := hno m hm
        simpa using this
      | none => rw [hj] at k1; exact k1.elim
    · rw [if_neg hc] at k1; exact k1.elim
  | none => exact k.elim
  | bool _ => exact k.elim
  | int _ => exact k.elim
  | str _ => exact k.elim
  | tuple _ => exact k.elim
  | dict _ => exact k.elim
theorem e_index {e0 : Expr} {apos cpos : Pos} (ho : PE X e (tB X.K f)) (ha : PE X e0 (tE X.K f1))
    (k : ∀ {to : TE} {t : TA}, PE X e to → PA X [e0] t → PE X (.Call (.Attribute e "index" apos) [e0] [] cpos) (tBM X.K "list" (rIndexD X.K) to t)) (hst : starEach (e0 :: []) X.env = (false, eval e0 X.env) :: starEach [] X.env := by rfl) :
    PE X (.Call (.Attribute e "index" apos) [e0] [] cpos) (tE X.K (dIndex f f1)) := pe_imp (k ho (pa_cons ha pa_nil hst)) fun σ H Q h => index_red h
end
end Fs

set_option Elab.async false
set_option linter.all false
set_option maxRecDepth 100000
set_option maxHeartbeats 2000000
set_option autoImplicit false
namespace Fs
open PySem PySem.Spec PyProof.Rows L2
/-- xs[::-1] of a list -/
def dRevL (f : DE) : DE := fun env => (f env).bind fun d => match d with
  | .list ds => .ret (.list ds.reverse)
  | _ => .bad
theorem dpa_rev {K : PySem.W.Frag} {F : Hp} : ∀ {vs : List V} {ds : List D}, DpAll K F vs ds → DpAll K F vs.reverse ds.reverse
  | _, _, .nil => .nil
  | _, _, .cons a r => by
    rw [List.reverse_cons, List.reverse_cons]
    exact dpa_app (dpa_rev r) (dpa_one a)
section
variable {X : Cx} {e : Expr} {f : DE}
theorem e_revL {k : Nat} {p1 p2 p3 pos : Pos} (he : PE X e (tB X.K f)) : PE X (.Subscript e (.Slice none none (some (.UnaryOp .USub (.Constant (.int 1) k p1) p2)) p3) pos) (tE X.K (dRevL f)) :=
  pe_imp (pe_revL he) fun σ H Q ⟨dr, B, F, env, s, r, q⟩ => ⟨dr, B, F, env, s, r, Cm.All.mono (by
    intro d k v F1 H1 S1 T1 b1
    cases d with
    | list ds =>
      obtain ⟨p, vs, rfl, h1, h2⟩ := bp_list T1 b1
      refine ⟨p, vs, rfl, h1, fun q hq => ?_⟩
      obtain ⟨S4, T4⟩ := lay T1 hq (.lst vs.reverse)
      exact k _ _ _ (S1.trans S4 T4) T4 (.dp (.lst (.inl (.inl upd_same)) (dpa_up S4.up _ _ (dpa_rev h2))))
    | none => exact k.elim
    | bool _ => exact k.elim
    | int _ => exact k.elim
    | str _ => exact k.elim
    | tuple _ => exact k.elim
    | dict _ => exact k.elim) (Cm.all_bind.mp q)⟩
/-- isinstance(x, (T1, T2)) -/
def vIsi2 (T1 T2 : String) (d : D) : Cm D := match tyD d with
  | some t => match kitB t T1, kitB t T2 with
    | some b1, some b2 => .ret (.bool (b1 || b2))
    | _, _ => .bad
  | none => .bad
def dIsi2 (T1 T2 : String) (f : DE) : DE := fun env => (f env).bind (vIsi2 T1 T2)
theorem e_isi2 {T1 T2 : String} {T1' T2' : Str} {p p2 p3 pos pt : Pos} {kt : Nat} (hg : Gl X "isinstance") (hm : X.mg "isinstance" = none) (hv : bootBuiltins "isinstance" = some (.builtin "isinstance")) (hgT : Gl X T1') (hmT : X.mg T1' = none) (hvT : bootBuiltins T1' = some (.type T1)) (hgU : Gl X T2') (hmU : X.mg T2' = none) (hvU : bootBuiltins T2' = some (.type T2))
    (he : PE X e (tB X.K f)) (hn : T1' ≠ "__name__" := by decide) (hd : (T1' == ("__debug__" : Str)) = false := by decide) (hn2 : T2' ≠ "__name__" := by decide) (hd2 : (T2' == ("__debug__" : Str)) = false := by decide)
    (hs1 : starEach (e :: [.Tuple [.Name T1' p2, .Name T2' p3] kt pt]) X.env = (false, eval e X.env) :: starEach [.Tuple [.Name T1' p2, .Name T2' p3] kt pt] X.env := by rfl) (hs2 : starEach (.Tuple [.Name T1' p2, .Name T2' p3] kt pt :: []) X.env = (false, eval (.Tuple [.Name T1' p2, .Name T2' p3] kt pt) X.env) :: starEach [] X.env := by rfl) (hpl : (backTo pos (starEach [.Tuple [.Name T1' p2, .Name T2' p3] kt pt] X.env)).any (·.1) = false := by rfl)
    (hs3 : starEach (.Name T1' p2 :: [.Name T2' p3]) X.env = (false, eval (.Name T1' p2) X.env) :: starEach [.Name T2' p3] X.env := by rfl) (hs4 : starEach (.Name T2' p3 :: []) X.env = (false, eval (.Name T2' p3) X.env) :: starEach [] X.env := by rfl) :
    PE X (.Call (.Name "isinstance" p) [e, .Tuple [.Name T1' p2, .Name T2' p3] kt pt] [] pos) (tE X.K (dIsi2 T1 T2 f)) :=
  pe_imp (pe_callB call_isiT hg hm hv (pa_cons he (pa_cons (pe_tup (pa_cons (pe_bltn (v := .ty T1) hgT hmT hvT rfl hn hd) (pa_cons (pe_bltn (v := .ty T2) hgU hmU hvU rfl hn2 hd2) pa_nil hs4) hs3)) pa_nil hs2) hs1) (by decide) (by decide) hs1 hpl) fun σ H Q ⟨dr, B, F, env, s, r, q⟩ => ⟨dr, B, F, env, s, r, Cm.All.mono (by
    intro d k v F1 H1 S1 T1' b1
    unfold vIsi2 at k
    split at k
    · rename_i t ht
      split at k
      · rename_i x1 x2 h1 h2
        refine ⟨show 2 ≤ sizeLine by decide, fun tp htp => ?_⟩
        obtain ⟨S4, T4⟩ := lay T1' htp (.tup [.ty T1, .ty T2])
        refine ⟨v, tp, [.ty T1, .ty T2], .type t, [.type T1, .type T2], x1 || x2, rfl, upd_same, .cons (.ty T1) (.cons (.ty T2) .nil), bp_ty T4 (b1.step S4) ht, ?_, k _ _ _ (S1.trans S4 T4) T4 (.dp (.bl _))⟩
        refine kitAny_cons (kit_ty h1) (fun e1 => ?_) (fun e1 => by rw [e1]; rfl)
        rw [e1]
        exact kitAny_cons (kit_ty h2) (fun e2 => by rw [e2]; exact kitAny_nil) (fun e2 => by rw [e2]; rfl)
      · exact k.elim
    · exact k.elim) (Cm.all_bind.mp q)⟩
def dPar3FVV (i j l : Nat) (f1 f2 f3 : DE) : DS := fun env => (f1 env).bind fun d1 => (f2 env).bind fun d2 => (f3 env).bind fun d3 => .ret (.nx (((env.set i (.own d1)).set j (.val d2)).set l (.val d3)))
theorem s_par3FVV {a b c : Expr} {f1 f2 f3 : DE} {pos : Pos} {i j l : Nat} {x y z : Str} {px py pz pt : Pos} {kt k2 pt2} (hc : X.calm = true) (hN : X.N.Nodup) (hi : X.N[i]? = some x) (hj : X.N[j]? = some y) (hl : X.N[l]? = some z) (hij : i ≠ j) (hil : i ≠ l) (hjl : j ≠ l)
    (hx : X.env.scope.names.lookup x = some .local) (hy : X.env.scope.names.lookup y = some .local) (hz : X.env.scope.names.lookup z = some .local) (ha : PE X a (tF X.K f1)) (hb : PE X b (tE X.K f2)) (hd : PE X c (tE X.K f3))
    (hw : swappedStores [.Tuple [.Name x px, .Name y py, .Name z pz] kt pt] (.Tuple [a, b, c] k2 pt2) X.env = pure (some [x, y, z]))
    (hst : starEach (a :: b :: c :: []) X.env = (false, eval a X.env) :: starEach (b :: c :: []) X.env := by rfl) (hst2 : starEach (b :: c :: []) X.env = (false, eval b X.env) :: starEach (c :: []) X.env := by rfl) (hst3 : starEach (c :: []) X.env = (false, eval c X.env) :: starEach [] X.env := by rfl)
    (hs : swapsWithSole [.Tuple [.Name x px, .Name y py, .Name z pz] kt pt] (.Tuple [a, b, c] k2 pt2) pos.line X.env = pure false := by rfl) :
    PS X (.Assign [.Tuple [.Name x px, .Name y py, .Name z pz] kt pt] (.Tuple [a, b, c] k2 pt2) pos) (tS X.K (dPar3FVV i j l f1 f2 f3)) :=
  ps_imp (ps_par3 hc hN hi hj hl hij hil hjl hx hy hz (pa_cons ha (pa_cons hb (pa_cons hd pa_nil hst3) hst2) hst) hw hs) fun D σ H ⟨dr, F0, H0, F, env, s, S, r, q⟩ =>
    ⟨dr, H0, F, env, s, r, Cm.All.mono (fun d1 k1 p F1 H1 S1 T1 hp nf o => ⟨dr, H0, F1, env, T1, r.step S1, Cm.All.mono (fun d2 k2 v2 F2 H2 S2 T2 b2 => ⟨dr, H0, F2, env, T2, (r.step S1).step S2, Cm.All.mono (fun d3 k3 v3 F3 H3 S3 T3 b3 =>
      ⟨_, _, _, rfl, k3 _ F3 H3 T3 (S.trans (S1.trans (S2.trans S3 T3) T3) T3) (((((r.newOwn S1 s hp (hb_none s S hp) nf o).step S2).setVal j b2).step S3).setVal l b3)⟩) (Cm.all_bind.mp k2)⟩) (Cm.all_bind.mp k1)⟩) (Cm.all_bind.mp q)⟩
end
end Fs

set_option Elab.async false
set_option linter.all false
set_option maxRecDepth 100000
set_option maxHeartbeats 2000000
set_option autoImplicit false
namespace Fs
open PySem PySem.Spec PyProof.Rows L2

/-! ### calls and operations that hand back a new list, kept as one's own -/
def rFs (K : PySem.W.Frag) (g : List D → Cm D) : List V → Hp → VK → Prop := fun xs H Q => ∃ dr F ds, Stt dr F H ∧ Paired (Bp K dr F H) xs ds ∧
  (g ds).All fun d => ∀ p F' H', Fs.Step dr F H F' H' → Stt dr F' H' → H p = none → F' p = none → OwnAt K F' H' p d → Q (.ref p) H'
theorem cf_red {K : PySem.W.Frag} {g : List D → Cm D} {fs : DEs} {σ : L2.St} {H : Hp} {Q : VK} (h : tF K (dCall g fs) σ H Q) : tAb K fs σ H fun vs H' => rFs K g vs H' Q := by
  obtain ⟨dr, B, F, env, s, r, q⟩ := h
  refine ⟨dr, B, F, env, s, r, Cm.All.mono (fun ds k vs F1 H1 S1 T1 b1 => ⟨dr, F1, ds, T1, b1, Cm.All.mono (fun d k2 p F2 H2 S2 T2 hp nf o => k2 p F2 H2 (S1.trans S2 T2) T2 ?_ nf o) k⟩) (Cm.all_bind.mp q)⟩
  exact hb_none T1 S1 hp
section
variable {X : Cx} {e a b : Expr} {es : List Expr} {f f1 f2 : DE} {fs : DEs} {pos : Pos}
theorem f_callTy {T : String} {x : Str} {p : Pos} {g : List D → Cm D} (hc : CallR X (.type T) (rFs X.K g)) (hg : Gl X x) (hm : X.mg x = none) (hv : bootBuiltins x = some (.type T)) (ha : PA X (e :: es) (tAb X.K fs)) (hn : x ≠ "__name__" := by decide) (hdb : (x == ("__debug__" : Str)) = false := by decide)
    (he : starEach (e :: es) X.env = (false, eval e X.env) :: starEach es X.env := by rfl) (hpl : (backTo pos (starEach es X.env)).any (·.1) = false := by rfl) : PE X (.Call (.Name x p) (e :: es) [] pos) (tF X.K (dCall g fs)) :=
  pe_imp (pe_callTy hc hg hm hv ha hn hdb he hpl) fun _ _ _ h => cf_red h
theorem f_callB {T : String} {x : Str} {p : Pos} {g : List D → Cm D} (hc : CallR X (.builtin T) (rFs X.K g)) (hg : Gl X x) (hm : X.mg x = none) (hv : bootBuiltins x = some (.builtin T)) (ha : PA X (e :: es) (tAb X.K fs)) (hn : x ≠ "__name__" := by decide) (hdb : (x == ("__debug__" : Str)) = false := by decide)
    (he : starEach (e :: es) X.env = (false, eval e X.env) :: starEach es X.env := by rfl) (hpl : (backTo pos (starEach es X.env)).any (·.1) = false := by rfl) : PE X (.Call (.Name x p) (e :: es) [] pos) (tF X.K (dCall g fs)) :=
  pe_imp (pe_callB hc hg hm hv ha hn hdb he hpl) fun _ _ _ h => cf_red h
theorem k_listF : CallR X (.type "list") (rFs X.K cList) := by
  intro pins s σ H xs us Q I rx h
  obtain ⟨dr, F, ds, T, bx, q⟩ := h
  refine call_list_of pins s σ H xs us Q I rx ?_
  unfold cList at q
  split at q
  · cases bx with
    | cons b1 bx =>
      cases bx
      obtain ⟨p, vs, rfl, h1, h2⟩ := bp_list T b1
      refine ⟨p, vs, rfl, .inl h1, fun l hl => ?_⟩
      obtain ⟨S2, T2, nf⟩ := lay_own T hl (.lst vs)
      exact q _ _ _ S2 T2 hl nf ⟨vs, upd_same, h2⟩
  · cases bx with
    | cons b1 bx =>
      cases bx
      obtain ⟨p, vs, rfl, h1, h2⟩ := bp_tup b1
      refine ⟨p, vs, rfl, .inr (sqt_up T.sub h1), fun l hl => ?_⟩
      obtain ⟨S2, T2, nf⟩ := lay_own T hl (.lst vs)
      exact q _ _ _ S2 T2 hl nf ⟨vs, upd_same, h2⟩
  · exact q.elim
/-- list + list, the new one kept -/
def vCat : D → D → Cm D
  | .list a, .list b => if a.length + b.length ≤ 1000000 then .ret (.list (a ++ b)) else .bad
  | _, _ => .bad
def rF2 (K : PySem.W.Frag) (g : D → D → Cm D) : R2 := fun x y H Q => ∃ dr F dx dy, Stt dr F H ∧ Bp K dr F H x dx ∧ Bp K dr F H y dy ∧
  (g dx dy).All fun d => ∀ p F' H', Fs.Step dr F H F' H' → Stt dr F' H' → H p = none → F' p = none → OwnAt K F' H' p d → Q (.ref p) H'
theorem o_catF : OpR X (binaryOp .Add) (rF2 X.K vCat) := by
  intro pins s σ H x y v u Q I rx ry h
  obtain ⟨dr, F, dx, dy, T, bx, b2, q⟩ := h
  unfold vCat at q
  split at q
  · split at q
    · rename_i hl
      obtain ⟨p1, vs, rfl, h1, h2⟩ := bp_list T bx
      obtain ⟨p2, ws, rfl, h3, h4⟩ := bp_list T b2
      cases rx
      cases ry
      refine cat_lists I h1 h3 (by rw [dpa_len h2, dpa_len h4]; exact Nat.le_trans hl (by decide)) fun p hp => ?_
      obtain ⟨S2, T2, nf⟩ := lay_own T hp (.lst (vs ++ ws))
      exact q _ _ _ S2 T2 hp nf ⟨_, upd_same, dpa_app h2 h4⟩
    · exact q.elim
  · exact q.elim
theorem opf_red {K : PySem.W.Frag} {g : D → D → Cm D} {σ : L2.St} {H : Hp} {Q : VK} (h : tF K (dOp g f1 f2) σ H Q) : tOp (rF2 K g) (tB K f1) (tB K f2) σ H Q := by
  obtain ⟨dr, B, F, env, s, r, q⟩ := h
  refine ⟨dr, B, F, env, s, r, Cm.All.mono (fun dx k x F1 H1 S1 T1 b1 => ⟨dr, B, F1, env, T1, r.step S1, Cm.All.mono (fun dy k2 y F2 H2 S2 T2 b2 => ⟨dr, F2, dx, dy, T2, b1.step S2, b2, Cm.All.mono (fun d k3 p F3 H3 S3 T3 hp nf o => k3 p F3 H3 ((S1.trans S2 T2).trans S3 T3) T3 (hb_none T2 (S1.trans S2 T2) hp) nf o) k2⟩) (Cm.all_bind.mp k)⟩) (Cm.all_bind.mp q)⟩
theorem f_cat (ha : PE X a (tB X.K f1)) (hb : PE X b (tB X.K f2)) : PE X (.BinOp a .Add b pos) (tF X.K (dOp vCat f1 f2)) := pe_imp (pe_op o_catF ha hb) fun _ _ _ h => opf_red h
end
end Fs

set_option Elab.async false
set_option linter.all false
set_option maxRecDepth 100000
set_option maxHeartbeats 2000000
set_option autoImplicit false
namespace Fs
open PySem PySem.Spec PyProof.Rows L2

/-! ### xs.append(ys.pop(k)) -/
theorem dpa_erase {K : PySem.W.Frag} {F : Hp} : ∀ {vs : List V} {ds : List D} (n : Nat), DpAll K F vs ds → DpAll K F (vs.eraseIdx n) (ds.eraseIdx n)
  | _, _, _, .nil => .nil
  | _, _, 0, .cons a r => r
  | _, _, n + 1, .cons a r => .cons a (dpa_erase n r)
def dAppPop (i j : Nat) (f : DE) : DS := fun env => match env[i]?, env[j]? with
  | some (.own (.list ds)), some (.own (.list es)) => (f env).bind fun d => match d with
    | .int k => match es[k.toNat]? with
      | some x => if i ≠ j ∧ 0 ≤ k ∧ k < 1000000 ∧ ds.length < 1000000 ∧ k.toNat < es.length then .ret (.nx ((env.set j (.own (.list (es.eraseIdx k.toNat)))).set i (.own (.list (ds ++ [x]))))) else .bad
      | none => .bad
    | _ => .bad
  | _, _ => .bad
section
variable {X : Cx} {e : Expr} {f : DE} {pos : Pos}
theorem s_appPop {i j : Nat} {o o2 : Expr} {apos epos apos2 epos2 : Pos} (ho : PE X o (tVar i)) (ho2 : PE X o2 (tVar j)) (he : PE X e (tE X.K f))
    (h : ∀ {to : TE} {t : TA}, PE X o to → PA X [.Call (.Attribute o2 "pop" apos2) [e] [] epos2] t → PE X (.Call (.Attribute o "append" apos) [.Call (.Attribute o2 "pop" apos2) [e] [] epos2] [] epos) (tBM X.K "list" rAppend to t))
    (h2 : ∀ {to : TE} {t : TA}, PE X o2 to → PA X [e] t → PE X (.Call (.Attribute o2 "pop" apos2) [e] [] epos2) (tBM X.K "list" rPopAt to t))
    (hsw : swapsWith (.Call (.Attribute o "append" apos) [.Call (.Attribute o2 "pop" apos2) [e] [] epos2] [] epos) none pos.line X.env = pure false := by rfl)
    (hst : starEach (e :: []) X.env = (false, eval e X.env) :: starEach [] X.env := by rfl)
    (hst2 : starEach (.Call (.Attribute o2 "pop" apos2) [e] [] epos2 :: []) X.env = (false, eval (.Call (.Attribute o2 "pop" apos2) [e] [] epos2) X.env) :: starEach [] X.env := by rfl) :
    PS X (.Expr (.Call (.Attribute o "append" apos) [.Call (.Attribute o2 "pop" apos2) [e] [] epos2] [] epos) pos) (tS X.K (dAppPop i j f)) :=
  ps_imp (ps_expr (h ho (pa_cons (h2 ho2 (pa_cons he pa_nil hst)) pa_nil hst2)) hsw) fun Dn σ H ⟨dr, F0, H0, F, env, T0, S, r, q⟩ => by
    unfold dAppPop at q
    split at q
    · rename_i ds es hi hj
      obtain ⟨o1, ho1, p, hq, hB, hF, hn, vs, hv, ha⟩ := r.ok i _ hi
      subst hq
      obtain ⟨o3, ho3, l, hq2, hB2, hF2, hn2, ws, hv2, ha2⟩ := r.ok j _ hj
      subst hq2
      refine ⟨_, ho1, .inl ⟨rfl, vs, .inl (.inl hv)⟩, _, ho3, .inl ⟨rfl, ws, .inl (.inl hv2)⟩, dr, H0, F, env, T0, r, ?_⟩
      refine Cm.All.mono ?_ (Cm.all_bind.mp q)
      intro d k v F' H' S' T' rv
      cases d with
      | int m =>
        cases rp_int rv
        have k : Cm.All _ (match es[m.toNat]? with
          | some x => if i ≠ j ∧ 0 ≤ m ∧ m < 1000000 ∧ ds.length < 1000000 ∧ m.toNat < es.length then Cm.ret (Out.nx ((env.set j (.own (.list (es.eraseIdx m.toNat)))).set i (.own (.list (ds ++ [x]))))) else .bad
          | none => .bad) := k
        cases hx : es[m.toNat]? with
        | none => rw [hx] at k; exact k.elim
        | some x =>
          rw [hx] at k
          by_cases hc : i ≠ j ∧ 0 ≤ m ∧ m < 1000000 ∧ ds.length < 1000000 ∧ m.toNat < es.length
          · have k : Cm.All _ (if i ≠ j ∧ 0 ≤ m ∧ m < 1000000 ∧ ds.length < 1000000 ∧ m.toNat < es.length then Cm.ret (Out.nx ((env.set j (.own (.list (es.eraseIdx m.toNat)))).set i (.own (.list (ds ++ [x]))))) else .bad) := k
            rw [if_pos hc] at k
            obtain ⟨hij, m0, m1, dl, ml⟩ := hc
            have hlen := dpa_len ha2
            obtain ⟨y, hy, dy⟩ := dpa_get ha2 hx
            have hvp := S'.keep p _ hn hv
            have hvl := S'.keep l _ hn2 hv2
            have hne : p ≠ l := fun z => hij (r.apart i j p _ _ hi hj ho1 (by rw [z]; exact ho3))
            have r' := r.step S'
            refine ⟨l, ws, m, m.toNat, y, rfl, rfl, hvl, by omega, by omega, ?_, hy, ?_⟩
            · have q1 : ¬ m < 0 := by omega
              have q2 : m < (ws.length : Int) := by omega
              simp [seqIndex?, q1, m0, q2]
            · refine ⟨p, vs, y, rfl, rfl, by rw [upd_ne hne]; exact hvp, by rw [dpa_len ha]; exact Nat.lt_of_lt_of_le dl (by decide), ?_⟩
              obtain ⟨R2, T2, hb2⟩ := r'.write T' (o := .lst (ws.eraseIdx m.toNat)) (d' := .list (es.eraseIdx m.toNat)) hj ho3 ⟨_, upd_same, dpa_erase _ (dpa_up S'.up _ _ ha2)⟩
              have hi2 : (env.set j (.own (.list (es.eraseIdx m.toNat))))[i]? = some (.own (.list ds)) := by rw [List.getElem?_set_ne (Ne.symm hij)]; exact hi
              obtain ⟨R3, T3, hb3⟩ := R2.write T2 (o := .lst (vs ++ [y])) (d' := .list (ds ++ [x])) hi2 ho1 ⟨_, upd_same, dpa_app (dpa_up S'.up _ _ ha) (dpa_one (dp_up S'.up _ _ dy))⟩
              exact k σ F' _ T3 (step_write (step_write (S.trans S' T') hB2) hB) R3
          · have k : Cm.All _ (if i ≠ j ∧ 0 ≤ m ∧ m < 1000000 ∧ ds.length < 1000000 ∧ m.toNat < es.length then Cm.ret (Out.nx ((env.set j (.own (.list (es.eraseIdx m.toNat)))).set i (.own (.list (ds ++ [x]))))) else .bad) := k
            rw [if_neg hc] at k
            exact k.elim
      | none => exact k.elim
      | bool _ => exact k.elim
      | str _ => exact k.elim
      | list _ => exact k.elim
      | tuple _ => exact k.elim
      | dict _ => exact k.elim
    · exact q.elim
end
end Fs

set_option Elab.async false
set_option linter.all false
set_option maxRecDepth 100000
set_option maxHeartbeats 2000000
set_option autoImplicit false
namespace Fs
open PySem PySem.Spec PyProof.Rows L2
/-! ### len(set(xs)), xs a list of whole numbers -/
def setLen (ns : List Int) : Nat := (PyProof.Rows.firstMet (fun i => ns.getD i 0) ns.length).length
def dLenSet (f : DE) : DE := fun env => (f env).bind fun d => match d with
  | .list ds => match asInts ds with
    | some ns => if ns.length < 64 then .ret (.int (setLen ns)) else .bad
    | none => .bad
  | _ => .bad
section
variable {X : Cx} {a : Expr} {f : DE} {p p2 q pos : Pos}
def tLenSetN (K : PySem.W.Frag) (ta : TE) : TE := fun σ H Q => ta σ H fun x H1 => ∃ (l : Addr) (ns : List Int), x = V.ref l ∧ SqL K H1 l (ns.map V.int) ∧ ns.length < 64 ∧ Q (.int (setLen ns)) H1
theorem pe_lenSetN {ta : TE} (hc : X.calm = true) (hg : Gl X "len") (hm : X.mg "len" = none) (hg2 : Gl X "set") (hm2 : X.mg "set" = none) (ha : PE X a ta)
    (na : starEach [a] X.env = (false, eval a X.env) :: starEach [] X.env := by rfl) : PE X (.Call (.Name "len" p) [.Call (.Name "set" p2) [a] [] q] [] pos) (tLenSetN X.K ta) := by
  refine ⟨fun pins s σ H Q I h => ?_⟩
  refine Call_ (ld_blt I hg hm PySem.boot_len ?_)
  refine PyProof.Rows.callWith_builtin1 (PyProof.Rows.args_cons ?_ rfl) rfl rfl
  refine Call_ (ld_blt I hg2 hm2 PyProof.Rows.boot_set ?_)
  refine PyProof.Rows.callWith_type1 (PyProof.Rows.args_cons (thn (ha.run pins s σ H _ I h) fun v s1 ⟨x, H1, I1, r1, q1⟩ => PyProof.Rows.args_nil ?_) na) na rfl
  obtain ⟨l, ns, rfl, hq, h1, q1⟩ := q1
  cases r1
  obtain ⟨its, r, pl, hz⟩ := I1.list hq
  have hl : its.toArray.size = ns.length := by rw [List.size_toArray, ← r.length, List.length_map]
  refine call_set_list (I1.ok.hd hc) pl.isList (ns := ns) (by simpa using r.ints) (by unfold scanBound; omega) fun h' tk hS hk => ?_
  rw [hl] at hS
  refine PyProof.Rows.args_nil ?_
  obtain ⟨o, es, ep, t, ho, hex, hd, _, _, _, hf, hn⟩ := hS
  have I2 : Inv X pins σ H1 { s1 with heap := h', toks := tk } := I1.kept fun b o e => hk b o (Heap.lt_size e) e
  have hle := firstMet_length_le (fun i => ns.getD i 0) ns.length
  exact call_len_set ho hex hd hf (by rw [hn]; omega) ⟨.int (setLen ns), H1, I2.tok _, ⟨_, by rw [hn]; rfl⟩, q1⟩
theorem e_lenSet (hc : X.calm = true) (hg : Gl X "len") (hm : X.mg "len" = none) (hg2 : Gl X "set") (hm2 : X.mg "set" = none) (ha : PE X a (tE X.K f))
    (na : starEach [a] X.env = (false, eval a X.env) :: starEach [] X.env := by rfl) : PE X (.Call (.Name "len" p) [.Call (.Name "set" p2) [a] [] q] [] pos) (tE X.K (dLenSet f)) :=
  pe_imp (pe_lenSetN hc hg hm hg2 hm2 ha na) fun σ H Q ⟨dr, B, F, env, s, r, q⟩ => ⟨dr, B, F, env, s, r, Cm.All.mono (fun d k v F1 H1 S1 T1 rv => by
    split at k
    · split at k
      · rename_i ns e
        have e := asInts_eq e
        subst e
        split at k
        · rename_i hl
          cases rv with
          | dp z =>
            cases z with
            | lst hs ha =>
              cases dpa_ints ha
              exact ⟨_, ns, rfl, sql_up T1.sub hs, hl, k _ F1 H1 S1 T1 (.dp (.int _))⟩
        · exact k.elim
      · exact k.elim
    · exact k.elim) (Cm.all_bind.mp q)⟩
end
end Fs

set_option Elab.async false
set_option linter.all false
set_option maxRecDepth 100000
set_option maxHeartbeats 2000000
set_option autoImplicit false
namespace Fs
open PySem PySem.Spec PyProof.Rows L2

/-! ### the module's constants: tuples of tuples of whole numbers -/
def TupK (K : PySem.W.Frag) (p : Addr) (ns : List Int) : Prop := ∃ (od : Option Addr) (its : Array Value) (n : Nat) (sl : Array (Option Value)), K.lookup p = some ⟨.type "tuple", od, .seq its n, sl⟩ ∧ intsOf its.toList = some ns ∧ ns.length ≤ 1000
theorem tupK_mk {K : PySem.W.Frag} {p : Addr} {od : Option Addr} {its : Array Value} {n : Nat} {sl : Array (Option Value)} {ns : List Int} (l : K.lookup p = some ⟨.type "tuple", od, .seq its n, sl⟩) (h : intsOf its.toList = some ns) (hl : ns.length ≤ 1000 := by decide) : TupK K p ns := ⟨od, its, n, sl, l, h, hl⟩
theorem tupK_dp {K : PySem.W.Frag} {p : Addr} {ns : List Int} (h : TupK K p ns) (F : Hp) : Dp K F (.ref p) (.tuple (ns.map .int)) := by
  obtain ⟨od, its, n, sl, l, h, hl⟩ := h
  have v := intsOf_vals h
  exact .tup (.inr ⟨_, its, n, l, rfl, rfl, by
    have h2 : its.size = ns.length := by have := v.length; simpa using this.symm
    rw [h2]
    exact Nat.le_trans hl (by decide), v⟩) (ints_dpa ns)
theorem tupKs_dpa {K : PySem.W.Frag} (F : Hp) : ∀ {ps : List Addr} {nss : List (List Int)}, Paired (TupK K) ps nss → DpAll K F (ps.map V.ref) (nss.map fun ns => PyData.tuple (ns.map .int))
  | _, _, .nil => .nil
  | _, _, .cons a t => .cons (tupK_dp a F) (tupKs_dpa F t)
theorem refs_vals : ∀ ps : List Addr, Vals (ps.map V.ref) (ps.map Value.ref)
  | [] => .nil
  | _ :: ps => .cons rfl (refs_vals ps)
theorem cst_tupT {K : PySem.W.Frag} {mg : Str → Option Value} {x : Str} {a : Addr} {od : Option Addr} {its : Array Value} {n : Nat} {sl : Array (Option Value)} {ps : List Addr} {nss : List (List Int)} (m : mg x = some (.ref a)) (l : K.lookup a = some ⟨.type "tuple", od, .seq its n, sl⟩) (h : its.toList = ps.map Value.ref)
    (hp : Paired (TupK K) ps nss) (hl : nss.length ≤ 1000 := by decide) : CstAt K mg x (.tuple (nss.map fun ns => PyData.tuple (ns.map .int))) :=
  ⟨.ref a, _, m, rfl, fun F => .tup (.inr ⟨_, its, n, l, rfl, rfl, by
    have h2 : its.size = nss.length := by rw [← Array.length_toList, h, List.length_map, hp.length]
    rw [h2]
    exact Nat.le_trans hl (by decide), by rw [h]; exact refs_vals ps⟩) (tupKs_dpa F hp)⟩
end Fs

namespace Fw
open PySem PySem.Spec PyProof.Rows L2 Fs
def topS (i : Nat) : Stmt := PySem.Challenge.pw_foursteps_k68_across_lines_of_products.main.body.getD i (.Pass ⟨0, 0, 0, 0⟩)
def D_FIFTY_DIGITS : D := (.int 100000000000000000000000000000000000000000000000000)
def D_PARTS : D := (.int 4)
def D_NOUGHT : D := (.tuple [(.int 0), (.int 0), (.int 0), (.int 0)])
def D_UNITS : D := (.tuple [(.tuple [(.int (-2)), (.int 0), (.int 0), (.int 0)]), (.tuple [(.int (-1)), (.int (-1)), (.int (-1)), (.int (-1))]), (.tuple [(.int (-1)), (.int (-1)), (.int (-1)), (.int 1)]), (.tuple [(.int (-1)), (.int (-1)), (.int 1), (.int (-1))]), (.tuple [(.int (-1)), (.int (-1)), (.int 1), (.int 1)]), (.tuple [(.int (-1)), (.int 1), (.int (-1)), (.int (-1))]), (.tuple [(.int (-1)), (.int 1), (.int (-1)), (.int 1)]), (.tuple [(.int (-1)), (.int 1), (.int 1), (.int (-1))]), (.tuple [(.int (-1)), (.int 1), (.int 1), (.int 1)]), (.tuple [(.int 0), (.int (-2)), (.int 0), (.int 0)]), (.tuple [(.int 0), (.int 0), (.int (-2)), (.int 0)]), (.tuple [(.int 0), (.int 0), (.int 0), (.int (-2))]), (.tuple [(.int 0), (.int 0), (.int 0), (.int 2)]), (.tuple [(.int 0), (.int 0), (.int 2), (.int 0)]), (.tuple [(.int 0), (.int 2), (.int 0), (.int 0)]), (.tuple [(.int 1), (.int (-1)), (.int (-1)), (.int (-1))]), (.tuple [(.int 1), (.int (-1)), (.int (-1)), (.int 1)]), (.tuple [(.int 1), (.int (-1)), (.int 1), (.int (-1))]), (.tuple [(.int 1), (.int (-1)), (.int 1), (.int 1)]), (.tuple [(.int 1), (.int 1), (.int (-1)), (.int (-1))]), (.tuple [(.int 1), (.int 1), (.int (-1)), (.int 1)]), (.tuple [(.int 1), (.int 1), (.int 1), (.int (-1))]), (.tuple [(.int 1), (.int 1), (.int 1), (.int 1)]), (.tuple [(.int 2), (.int 0), (.int 0), (.int 0)])])
def D_MOST_PRIME : D := (.int 1000)
def D_MOST_LISTED : D := (.int 97)
section
variable {P : Program} {w : World} {K : PySem.W.Frag} {mg : Str → Option Value} {base : Heap}
abbrev s_Lbegun : Stmt := topS 69
abbrev N_Lbegun : List Str := ["script", "large", "cell"]
theorem sc_Lbegun : FnScope N_Lbegun ["script"] (defScope s_Lbegun) := ⟨rfl, rfl, rfl, by decide +kernel, rfl, by decide +kernel, by decide +kernel⟩
theorem ok_Lbegun (A0 : DefAt K mg "_law_begun" s_Lbegun ["script"]) (n_abs : mg "abs" = none) : ∃ (fa : Addr) (fd : FuncData), FnOk P w K mg base CX0 1 fa fd ["script"] (spBegun K) ∧ mg "_law_begun" = some (.ref fa) ∧ PySem.W.keepIn K (.ref fa) = true ∧ L2.Binds K fd ["script"] [] := by
  obtain ⟨fa, fd, FF, bb, mm⟩ := A0.ex
  refine ⟨fa, fd, ?_, mm, FF.kp, bb⟩
  refine FF.ok sc_Lbegun (fun vs H Q E h => ?_) (fun cdv A outer s H vs Q E hr h => ?_)
  · obtain ⟨a, ns, rfl, _⟩ := h
    rfl
  · obtain ⟨a, ns, rfl, hS, hlen, q⟩ := h
    refine ⟨_, pss_cons (ps_setLc (i := 1) (own := [("cell", 2)]) rfl sc_Lbegun.nd rfl rfl (sw_true rfl rfl rfl (by decide +kernel)) (pi_list (pv 0)) (blkOk_by (N := N_Lbegun) (sc := defScope s_Lbegun) (by decide +kernel))
          (fun _ _ _ _ _ => pg_name (i := 2) sc_Lbegun.nd rfl (Or.inl rfl))
          (fun _ _ _ _ _ => pts_one (pt_cmpR op_ge (pe_callB call_abs (by rfl) n_abs (by decide +kernel) (pa_cons (pv 2) pa_nil)) (pe_op op_pow pe_int pe_int) (nomark _)))
          (fun _ _ _ _ _ => pe_op op_sub (pe_callB call_abs (by rfl) n_abs (by decide +kernel) (pa_cons (pv 2) pa_nil)) (pe_op op_pow pe_int pe_int)))
      (pss_one (ps_ret (pe_disp (pps_cons pe_str (pv 1) (pps_cons pe_str pe_int (pps_cons pe_str
          (pe_lc (own := [("cell", 2)]) rfl sc_Lbegun.nd (pi_list (pv 0)) (blkOk_by (N := N_Lbegun) (sc := defScope s_Lbegun) (by decide +kernel))
            (fun _ _ _ _ _ => pg_name (i := 2) sc_Lbegun.nd rfl (Or.inl rfl)) (fun _ _ _ _ _ => pts_nil) (fun _ _ _ _ _ => pe_callB call_abs (by rfl) n_abs (by decide +kernel) (pa_cons (pv 2) pa_nil)))
          (pps_cons pe_str pe_int pps_nil)))) (by rfl) (by rfl) (fun z => by cases z) (by decide)))), ?_⟩
    have at_ : ∀ {i : Nat} {x : V}, (ns.map V.int)[i]? = some x → ∃ n : Int, x = .int n := fun {i x} hx => by
      rw [List.getElem?_map] at hx
      cases hz : ns[i]? with
      | none => rw [hz] at hx; cases hx
      | some c => rw [hz] at hx; cases hx; exact ⟨c, rfl⟩
    have hl63 : (ns.map V.int).length ≤ 63 := by rw [List.length_map]; exact hlen
    -- large
    refine ⟨.ref a, rfl, a, rfl, ⟨_, hS⟩, fun L hL => ?_⟩
    refine lc_list (xs := ns.map V.int) (fun i H1 => ∃ acc : List Int, H1 L = some (.lst (acc.map V.int)) ∧ acc.length ≤ i ∧ Kept H H1) ⟨[], upd_same, Nat.le_refl _, Kept.new hL⟩ (fun i H1 _ ⟨_, _, _, k⟩ => sql_up k hS) (fun i x H1 hx ⟨acc, h1, h2, h3⟩ => ?_) (fun H1 ⟨large, h1, h2, h3⟩ => ?_)
    · obtain ⟨n, rfl⟩ := at_ hx
      have hi : i < 63 := Nat.lt_of_lt_of_le (List.getElem?_eq_some_iff.mp hx).1 hl63
      refine ⟨rfl, _, rfl, n, rfl, 10, 18, rfl, rfl, ⟨by decide, by decide, by decide⟩, _, _, rfl, rfl, _, rfl, ite2 (fun e => ?_) (fun e => ⟨acc, h1, Nat.le_succ_of_le h2, h3⟩)⟩
      refine ⟨_, rfl, n, rfl, 10, 18, rfl, rfl, ⟨by decide, by decide, by decide⟩, _, _, rfl, rfl, acc.map V.int, h1, ?_, ?_⟩
      · rw [List.length_map]; exact Nat.lt_of_le_of_lt h2 (Nat.lt_trans hi (by decide))
      · exact ⟨acc ++ [_], by rw [upd_same, List.map_append]; rfl, by rw [List.length_append]; exact Nat.succ_le_succ h2, h3.mut hL⟩
    · -- the dict
      intro p hp
      have npL : p ≠ L := fun z => by rw [z, h1] at hp; cases hp
      have hp0 : H p = none := h3.none hp
      have k1 : Kept H (upd H1 p (.dK [])) := h3.mut hp0
      refine ⟨.ref L, rfl, .ref a, rfl, a, rfl, ⟨_, sql_up k1 hS⟩, fun C hC => ?_⟩
      have nCp : C ≠ p := fun z => by rw [z, upd_same] at hC; cases hC
      have nCL : C ≠ L := fun z => by rw [z, upd_ne npL.symm, h1] at hC; cases hC
      have hC1 : H1 C = none := by rw [upd_ne nCp] at hC; exact hC
      have hC0 : H C = none := h3.none hC1
      refine lc_list (xs := ns.map V.int) (fun i H2 => ∃ acc : List Int, H2 C = some (.lst (acc.map V.int)) ∧ acc.length ≤ i ∧ Kept H H2 ∧ H2 p = some (.dK []) ∧ H2 L = some (.lst (large.map V.int)))
        ⟨[], upd_same, Nat.le_refl _, k1.mut hC0, by rw [upd_ne nCp.symm, upd_same], by rw [upd_ne nCL.symm, upd_ne npL.symm]; exact h1⟩ (fun i H2 _ ⟨_, _, _, k, _⟩ => sql_up k hS) (fun i x H2 hx ⟨acc, g1, g2, g3, g4, g5⟩ => ?_) (fun H2 ⟨cells, g1, g2, g3, g4, g5⟩ => ?_)
      · obtain ⟨n, rfl⟩ := at_ hx
        have hi : i < 63 := Nat.lt_of_lt_of_le (List.getElem?_eq_some_iff.mp hx).1 hl63
        refine ⟨rfl, _, rfl, n, rfl, acc.map V.int, g1, ?_, ?_⟩
        · rw [List.length_map]; exact Nat.lt_of_le_of_lt g2 (Nat.lt_trans hi (by decide))
        · exact ⟨acc ++ [_], by rw [upd_same, List.map_append]; rfl, by rw [List.length_append]; exact Nat.succ_le_succ g2, g3.mut hC0, by rw [upd_ne nCp.symm]; exact g4, by rw [upd_ne nCL.symm]; exact g5⟩
      · refine ⟨g4, [(kLarge, .ref L), (kRest, .int 0), (kCells, .ref C), (kTurn, .int 0)], rfl, (show 4 ≤ 15 by decide), ?_⟩
        refine q ⟨p, L, C⟩ _ (g3.mut hp0) ⟨large, cells, 0, 0, ?_, ?_, ?_, nCL.symm⟩ hp0 hL hC0
        · exact upd_same
        · rw [upd_ne npL.symm]; exact g5
        · rw [upd_ne nCp]; exact g1
abbrev s_Lmixed : Stmt := topS 70
theorem sc_Lmixed : FnScope ["draw", "lap", "found", "great", "blend", "cell"] ["draw"] (defScope s_Lmixed) := ⟨rfl, rfl, rfl, by decide +kernel, rfl, by decide +kernel, by decide +kernel⟩
theorem ok_Lmixed (A0 : DefAt K mg "_law_mixed" s_Lmixed ["draw"]) (n_int : mg "int" = none) : Has P w K mg base 1 "_law_mixed" ["draw"] m_Lmixed := by
  obtain ⟨fa, fd, FF, bb, mm⟩ := A0.ex
  refine ⟨fa, fd, ?_, mm, FF.kp, bb⟩
  refine FF.ok sc_Lmixed (fun vs H Q E h => ?_) (fun cdv A outer s H vs Q E hr h => ?_)
  · obtain ⟨dr, F, ds, _, h1, h2, _⟩ := h
    rw [h1.length]; exact h2
  · obtain ⟨dr, F, ds, T, hp, hl, q⟩ := h
    have hu := hu_of hr
    unfold m_Lmixed at q
    split at q
    · rename_i d
      cases hp with
      | cons r0 hp =>
        cases hp
        split at q
        · rename_i hc
          have hd := isDrw_eq hc
          subst hd
          cases rp_drw r0
          refine ⟨_, pss_cons (ps_dput hu (pv 0) pe_str (pe_op op_add (pe_dget hu (pv 0) pe_str (fun _ _ => rfl)) pe_int) rfl)
            (pss_cons (ps_par (i := 1) (j := 2) rfl sc_Lmixed.nd rfl rfl (by decide) rfl rfl (pa_cons (pe_callTy call_int1 (by rfl) n_int (by decide +kernel) (pa_cons (pe_dget hu (pv 0) pe_str (fun _ _ => rfl)) pa_nil)) (pa_cons pe_int pa_nil)) (by rfl))
            (pss_cons (ps_for PassesOwn.never rfl (pi_list (pe_lst (pa_cons pe_int (pa_cons pe_int (pa_cons pe_int pa_nil))))) (pg_name (i := 3) sc_Lmixed.nd rfl (.inl rfl))
              (pss_cons (ps_set (i := 4) sc_Lmixed.nd rfl (.inl rfl) (pe_op op_mod (pe_op op_add (pe_op op_mul (pv 1) pe_int) (pe_op op_fdiv (pv 3) pe_int)) (pv 3)))
              (pss_cons (ps_for PassesOwn.never rfl (pi_list (pe_dget hu (pv 0) pe_str (fun _ _ => rfl))) (pg_name (i := 5) sc_Lmixed.nd rfl (.inl rfl))
                (pss_one (ps_set (i := 4) sc_Lmixed.nd rfl (.inl rfl) (pe_op op_mod (pe_op op_add (pe_op op_add (pe_op op_mul (pv 4) pe_int) (pe_callTy call_int1 (by rfl) n_int (by decide +kernel) (pa_cons (pv 5) pa_nil))) (pv 1)) (pv 3)))))
              (pss_one (ps_set (i := 2) sc_Lmixed.nd rfl (.inl rfl) (pe_op op_add (pe_op op_mul (pv 2) pe_int) (pe_op op_mod (pe_op op_pow (pv 4) pe_int) (pv 3))))))))
            (pss_one (ps_ret (pv 2))))), ?_⟩
          obtain ⟨large, cells, rest, turn, D0⟩ := T.drw.at
          refine ⟨_, rfl, dr.a, _, rfl, D0.get (gTurn _ _ _ _), _, _, rfl, rfl, ?_⟩
          obtain ⟨T1, S1, D1⟩ := dr_setA T D0 rest (turn + 1)
          refine ⟨_, rfl, dr.a, _, rfl, D0.putT _, ?_⟩
          refine ⟨_, rfl, dr.a, _, rfl, D1.get (gTurn _ _ _ _), .inl ⟨_, rfl, _, _, rfl, ?_⟩⟩
          refine ⟨show 3 ≤ sizeLine by decide, fun p hp => ?_⟩
          have D2 := grow_dr D1 hp (.lst [V.int 2147483647, V.int 2147483629, V.int 2147483587])
          obtain ⟨T2, S2⟩ := stt_grow T1 hp (.lst [V.int 2147483647, V.int 2147483629, V.int 2147483587])
          refine ⟨p, rfl, ⟨_, .inl (.inl upd_same)⟩, ?_⟩
          generalize hH : upd (upd H dr.a (.dK (drKv dr.l dr.c rest (turn + 1)))) p (.lst [V.int 2147483647, V.int 2147483629, V.int 2147483587]) = H2 at D2 T2 S2 ⊢
          have hpl : H2 p = some (.lst [V.int 2147483647, V.int 2147483629, V.int 2147483587]) := by rw [← hH]; exact upd_same
          refine for_list (xs := [V.int 2147483647, V.int 2147483629, V.int 2147483587]) (fun i σ H3 => ∃ (found : Int) (x3 x4 x5 : Option V), σ = [some (.ref dr.a), some (.int (turn + 1)), some (.int found), x3, x4, x5] ∧ H3 = H2)
            ⟨0, none, none, none, rfl, rfl⟩ (fun i σ H3 _ ⟨_, _, _, _, _, e⟩ => by rw [e]; exact .inl (.inl hpl)) (fun i x σ H3 hx ⟨found, x3, x4, x5, e1, e2⟩ => ?_) (fun σ H3 ⟨found, x3, x4, x5, e1, e2⟩ => ?_)
          · subst e1 e2
            obtain ⟨g, rfl, g1, g2⟩ := greats hx
            refine ⟨_, rfl, turn + 1, 48271, rfl, rfl, .inr ⟨by decide, by decide⟩, _, rfl, g, 11, rfl, rfl, ⟨by decide, by decide⟩, _, _, rfl, rfl, _, rfl, _, g, rfl, rfl, g1, ?_⟩
            refine ⟨_, rfl, dr.a, _, rfl, D2.get (gCells _ _ _ _), dr.c, rfl, ⟨_, .inl (.inl D2.c)⟩, ?_⟩
            refine for_list (xs := cells.map V.int) (fun i σ H4 => ∃ (blend : Int) (y5 : Option V), σ = [some (.ref dr.a), some (.int (turn + 1)), some (.int found), some (.int g), some (.int blend), y5] ∧ 0 ≤ blend ∧ blend < g ∧ H4 = H3)
              ⟨_, _, rfl, Int.emod_nonneg _ (by omega), Int.emod_lt_of_pos _ g1, rfl⟩ (fun i σ H4 _ ⟨_, _, _, _, _, e⟩ => by rw [e]; exact .inl (.inl D2.c)) (fun j y σ H4 hy ⟨blend, y5, e1, b1, b2, e2⟩ => ?_) (fun σ H4 ⟨blend, y5, e1, b1, b2, e2⟩ => ?_)
            · subst e1 e2
              rw [List.getElem?_map] at hy
              obtain ⟨cc, hcc⟩ : ∃ c : Int, y = .int c := by
                cases hz : cells[j]? with
                | none => rw [hz] at hy; cases hy
                | some c => rw [hz] at hy; cases hy; exact ⟨c, rfl⟩
              subst hcc
              refine ⟨_, rfl, blend, 69621, rfl, rfl, .inr ⟨by decide, by decide⟩, _, rfl, .inl ⟨cc, rfl, _, cc, rfl, rfl, _, rfl, _, turn + 1, rfl, rfl, _, rfl, _, g, rfl, rfl, g1, ?_⟩⟩
              exact ⟨_, _, rfl, Int.emod_nonneg _ (by omega), Int.emod_lt_of_pos _ g1, rfl⟩
            · subst e1 e2
              refine ⟨_, rfl, found, 2147483659, rfl, rfl, .inr ⟨by decide, by decide⟩, _, rfl, blend, 5, rfl, rfl, ⟨by decide, by decide, by omega⟩, _, rfl, _, g, rfl, rfl, g1, _, _, rfl, rfl, ?_⟩
              exact ⟨_, _, _, _, rfl, rfl⟩
          · subst e1 e2
            refine ⟨_, rfl, ?_⟩
            exact q found _ F H3 (S1.trans S2 T2) T2 (.dp (.int _))
        · exact q.elim
    · exact q.elim
abbrev s_Ltake : Stmt := topS 71
theorem sc_Ltake : FnScope ["draw", "amount", "found"] ["draw", "amount"] (defScope s_Ltake) := ⟨rfl, rfl, rfl, by decide +kernel, rfl, by decide +kernel, by decide +kernel⟩
theorem ok_Ltake (A0 : DefAt K mg "_law_take" s_Ltake ["draw", "amount"]) (h_mixed : Has P w K mg base 1 "_law_mixed" ["draw"] m_Lmixed) (n_int : mg "int" = none) : Has P w K mg base 2 "_law_take" ["draw", "amount"] m_Ltake := by
  obtain ⟨fa, fd, FF, bb, mm⟩ := A0.ex
  obtain ⟨fm, fdm, FM, gm, km, bm⟩ := h_mixed.ex
  refine ⟨fa, fd, ?_, mm, FF.kp, bb⟩
  refine FF.ok sc_Ltake (fun vs H Q E h => ?_) (fun cdv A outer s H vs Q E hr h => ?_)
  · obtain ⟨dr, F, ds, _, h1, h2, _⟩ := h
    rw [h1.length]; exact h2
  · obtain ⟨dr, F, ds, T, hp, hl, q⟩ := h
    have hu := hu_of hr
    unfold m_Ltake at q
    split at q
    · rename_i d n
      cases hp with
      | cons r0 hp =>
      cases hp with
      | cons r1 hp =>
        cases hp
        split at q
        · rename_i hc
          have hd := isDrw_eq hc.1
          subst hd
          cases rp_drw r0
          cases rp_int r1
          refine ⟨_, pss_cons (ps_if (pt_cmpR op_eq (pe_dget hu (pv 0) pe_str (fun _ _ => rfl)) pe_int (nomark _))
              (pss_one (ps_dput hu (pv 0) pe_str (pe_ifExp (pt_cmpR (op_neD hr.units) (pe_dget hu (pv 0) pe_str (fun _ _ => rfl)) (pe_lst pa_nil) (nomark _))
                (pe_bm PySem.F.plainAttrs_list PySem.F.slot_list_pop PySem.F.type_list_pop mt_popAt (pe_dget hu (pv 0) pe_str (fun _ _ => rfl)) (pa_cons pe_int pa_nil))
                (pe_call (E := E0) FM hr (by rfl) gm km bm .nil pass0 (pa_cons (pv 0) pa_nil))) rfl)) pss_nil)
            (pss_cons (ps_set (i := 2) sc_Ltake.nd rfl (.inl rfl) (pe_op op_mod (pe_callTy call_int1 (by rfl) n_int (by decide +kernel) (pa_cons (pe_dget hu (pv 0) pe_str (fun _ _ => rfl)) pa_nil)) (pv 1)))
            (pss_cons (ps_dput hu (pv 0) pe_str (pe_op op_fdivW (pe_callTy call_int1 (by rfl) n_int (by decide +kernel) (pa_cons (pe_dget hu (pv 0) pe_str (fun _ _ => rfl)) pa_nil)) (pv 1)) rfl)
            (pss_one (ps_ret (pv 2))))), ?_⟩
          -- from any state on: the number, the rest
          have fin2 : ∀ (σ : L2.St) (F1 H1 : Hp) (large cells : List Int) (rest turn : Int), σ[0]? = some (some (.ref dr.a)) → σ[1]? = some (some (.int n)) → σ.length = 3 → Stt dr F1 H1 → Fs.Step dr F H F1 H1 → DrAt dr H1 large cells rest turn →
              (tSeq (tAsg (tOp (rI (fun _ j => 0 < j) fun i j => .int (i % j)) (tCB (fun xs H Q => (∃ i, xs = [.int i] ∧ Q (.int i) H) ∨ ∃ k, xs = [.bl k] ∧ Q (.int (if k then 1 else 0)) H) (tCons (tDGet (tVar 0) (tC (.str "rest"))) tNil)) (tVar 1)) (gName 2))
                (tSeq (sDPut (tVar 0) (tC (.str "rest")) (tOp (rI CDivW fun i j => .int (i / j)) (tCB (fun xs H Q => (∃ i, xs = [.int i] ∧ Q (.int i) H) ∨ ∃ k, xs = [.bl k] ∧ Q (.int (if k then 1 else 0)) H) (tCons (tDGet (tVar 0) (tC (.str "rest"))) tNil)) (tVar 1))) (tRet (tVar 2))))
                { nx := fun _ H' => Q .non H', rt := Q } σ H1 := by
            intro σ F1 H1 large cells rest turn e0 e1 el T1 S1 D1
            refine ⟨_, e0, dr.a, _, rfl, D1.get (gRest _ _ _ _), .inl ⟨rest, rfl, _, e1, rest, n, rfl, rfl, hc.2.1, ?_⟩⟩
            have e0' : (σ.set 2 (some (V.int (rest % n))))[0]? = some (some (.ref dr.a)) := by rw [List.getElem?_set_ne (by decide)]; exact e0
            have e1' : (σ.set 2 (some (V.int (rest % n))))[1]? = some (some (.int n)) := by rw [List.getElem?_set_ne (by decide)]; exact e1
            have e2' : (σ.set 2 (some (V.int (rest % n))))[2]? = some (some (.int (rest % n))) := List.getElem?_set_self (by omega)
            refine ⟨_, e0', dr.a, _, rfl, D1.get (gRest _ _ _ _), .inl ⟨rest, rfl, _, e1', rest, n, rfl, rfl, ⟨hc.2.1, hc.2.2⟩, ?_⟩⟩
            obtain ⟨T2, S2, D2⟩ := dr_setA T1 D1 (rest / n) turn
            refine ⟨_, e0', dr.a, _, rfl, D1.putR _, ?_⟩
            refine ⟨_, e2', ?_⟩
            have hm : ((rest % n).toNat : Int) = rest % n := Int.toNat_of_nonneg (Int.emod_nonneg _ (by have := hc.2.1; omega))
            have hlt : (rest % n).toNat < n.toNat := by
              have := Int.emod_lt_of_pos rest hc.2.1
              omega
            have qq : ∀ (v : V) (F' H' : Hp), Fs.Step dr F H F' H' → Stt dr F' H' → Rp K dr F' v (.int (((rest % n).toNat : Nat) : Int)) → Q v H' := q (rest % n).toNat hlt
            rw [hm] at qq
            exact qq _ F1 _ (S1.trans S2 T2) T2 (.dp (.int _))
          have fin := fun (σ : L2.St) (H1 : Hp) (large cells : List Int) (rest turn : Int) => fin2 σ F H1 large cells rest turn
          obtain ⟨large, cells, rest, turn, D0⟩ := T.drw.at
          have e0 : (L2.start ["draw", "amount", "found"] [V.ref dr.a, V.int n])[0]? = some (some (.ref dr.a)) := rfl
          have e1 : (L2.start ["draw", "amount", "found"] [V.ref dr.a, V.int n])[1]? = some (some (.int n)) := rfl
          refine ⟨_, e0, dr.a, _, rfl, D0.get (gRest _ _ _ _), rfl, _, rfl, ite2 (fun e => ?_) (fun e => fin _ H large cells rest turn e0 e1 rfl T .refl D0)⟩
          -- draw["rest"] = ..
          refine ⟨_, e0, dr.a, _, rfl, D0.get (gLarge _ _ _ _), Nat.zero_le _, fun p hp => ?_⟩
          have D1 := grow_dr D0 hp (.lst [])
          obtain ⟨T1, S1⟩ := stt_grow T hp (.lst [])
          refine ⟨.list (large.map .int), .list [], .lst (.inl (.inl D1.l)) (ints_dpa large), .lst (.inl (.inl upd_same)) .nil, ?_, rfl, _, rfl, ite2 (fun e => ?_) (fun e => ?_)⟩
          · exact shaped_ints large
          · -- large.pop(0)
            obtain ⟨x, r, rfl⟩ := ite_nil_of e
            refine ⟨_, e0, dr.a, _, rfl, D1.get (gLarge _ _ _ _), .inl ⟨rfl, _, .inl (.inl D1.l)⟩, dr.l, _, 0, 0, .int x, rfl, rfl, D1.l, by decide, by decide, by simp [seqIndex?], rfl, ?_⟩
            obtain ⟨T2, S2, D2⟩ := dr_setL T1 D1 r
            refine ⟨_, e0, dr.a, _, rfl, D2.putR x, ?_⟩
            obtain ⟨T3, S3, D3⟩ := dr_setA T2 D2 x turn
            exact fin _ _ _ _ _ _ e0 e1 rfl T3 (S1.trans (S2.trans S3 T3) T3) D3
          · -- mixed
            refine ⟨_, e0, dr, F, [drwT], T1, .cons .drw .nil, rfl, fun i v F2 H2 S2 T2 rv => ?_⟩
            cases rp_int rv
            have SS := S1.trans S2 T2
            obtain ⟨large2, cells2, rest2, turn2, D2⟩ := T2.drw.at
            refine ⟨_, e0, dr.a, _, rfl, D2.putR i, ?_⟩
            obtain ⟨T3, S3, D3⟩ := dr_setA T2 D2 i turn2
            exact fin2 _ _ _ _ _ _ _ e0 e1 rfl T3 (SS.trans S3 T3) D3
        · exact q.elim
    · exact q.elim
abbrev s_is_number : Stmt := topS 14
abbrev N_is_number : List Str := ["thing"]
theorem sc_is_number : FnScope N_is_number ["thing"] (defScope s_is_number) := ⟨rfl, rfl, rfl, by decide +kernel, rfl, by decide +kernel, by decide +kernel⟩
def S_is_number : DS := (dRet (dAndV (dIsi "int" (dPeek 0)) (dNotV (dIsi "bool" (dPeek 0)))))
def m_is_number : List D → Cm D := fnD 1 S_is_number
theorem ok_is_number (A0 : DefAt K mg "is_number" s_is_number ["thing"]) (n_bool : mg "bool" = none) (n_int : mg "int" = none) (n_isinstance : mg "isinstance" = none) : Has P w K mg base 1 "is_number" ["thing"] m_is_number :=
  has_mk 0 A0 sc_is_number S_is_number fun f cdv A outer sh H hr =>
    (ss_one (s_ret (e_and (e_isi (by rfl) n_isinstance (by decide +kernel) (by rfl) n_int (by decide +kernel) (b_var (pv 0))) (e_one (e_not (e_isi (by rfl) n_isinstance (by decide +kernel) (by rfl) n_bool (by decide +kernel) (b_var (pv 0))))))))
abbrev s_is_short : Stmt := topS 15
abbrev N_is_short : List Str := ["thing"]
theorem sc_is_short : FnScope N_is_short ["thing"] (defScope s_is_short) := ⟨rfl, rfl, rfl, by decide +kernel, rfl, by decide +kernel, by decide +kernel⟩
def S_is_short : DS := (dRet (dAndV (dCallN 1 m_is_number (dCons (dVar 0) dNil)) (dOp (vCmp pLt) (dCall cAbs (dCons (dPeek 0) dNil)) (dOp vPow (dCst D_FIFTY_DIGITS) (dCst (.int 4))))))
def m_is_short : List D → Cm D := fnD 1 S_is_short
theorem ok_is_short (A0 : DefAt K mg "is_short" s_is_short ["thing"]) (h_is_number : Has P w K mg base 1 "is_number" ["thing"] m_is_number) (n_abs : mg "abs" = none) (c_FIFTY_DIGITS : CstAt K mg "FIFTY_DIGITS" D_FIFTY_DIGITS) : Has P w K mg base 2 "is_short" ["thing"] m_is_short :=
  has_mk 1 A0 sc_is_short S_is_short fun f cdv A outer sh H hr =>
    (ss_one (s_ret (e_and (e_callH h_is_number (hr.mono (by decide)) (by rfl) (a_cons (e_var (pv 0)) a_nil)) (e_one (e_cmp o_lt (e_b (e_callB k_abs (by rfl) n_abs (by decide +kernel) (ab_cons (b_var (pv 0)) ab_nil))) (e_b (e_op o_pow (e_b (e_cst c_FIFTY_DIGITS (by rfl))) (e_b e_int))) (nomark _))))))
abbrev s_is_quad_of : Stmt := topS 16
abbrev N_is_quad_of : List Str := ["thing", "number"]
theorem sc_is_quad_of : FnScope N_is_quad_of ["thing"] (defScope s_is_quad_of) := ⟨rfl, rfl, rfl, by decide +kernel, rfl, by decide +kernel, by decide +kernel⟩
def S_is_quad_of : DS := (dSeq (dIfS (dOrT (dNotT (dTru (dIsi "tuple" (dPeek 0)))) (dOrT (dTru (dOp vNe (dCall cLen (dCons (dPeek 0) dNil)) (dCst D_PARTS))) (dNotT (dTru (dCall cAll (dCons (dOnlyL (dLc (dItems (dVar 0)) (gN 1) dYes (dCallN 1 m_is_short (dCons (dVar 1) dNil)) [1])) dNil)))))) (dRet (dCst (.bool false))) dSkip)
    (dRet (dCall cAll (dCons (dOnlyL (dLc (dItems (dVar 0)) (gN 1) dYes (dOp vEq (dOp vMod (dOp vSub (dPeek 1) (dOp vIx (dPeek 0) (dCst (.int 0)))) (dCst (.int 2))) (dCst (.int 0))) [1])) dNil))))
def m_is_quad_of : List D → Cm D := fnD 2 S_is_quad_of
theorem ok_is_quad_of (A0 : DefAt K mg "is_quad_of" s_is_quad_of ["thing"]) (h_is_short : Has P w K mg base 2 "is_short" ["thing"] m_is_short) (n_all : mg "all" = none) (n_isinstance : mg "isinstance" = none) (n_len : mg "len" = none) (n_tuple : mg "tuple" = none) (c_PARTS : CstAt K mg "PARTS" D_PARTS) : Has P w K mg base 3 "is_quad_of" ["thing"] m_is_quad_of :=
  has_mk 2 A0 sc_is_quad_of S_is_quad_of fun f cdv A outer sh H hr =>
    (ss_cons (s_if (PW.pt (w_or (t_not (t_val (e_isi (by rfl) n_isinstance (by decide +kernel) (by rfl) n_tuple (by decide +kernel) (b_var (pv 0))))) (w_or (t_cmp (o_ne hr.units) (e_b (e_callB k_len (by rfl) n_len (by decide +kernel) (ab_cons (b_var (pv 0)) ab_nil))) (e_b (e_cst c_PARTS (by rfl))) (nomark _)) (w_or1 (t_not (t_val (e_callB (k_all rfl) (by rfl) n_all (by decide +kernel) (ab_cons (e_b (e_f (f_lc (own := [("number", 1)]) rfl sc_is_quad_of.nd (i_seq (e_var (pv 0))) (blkOk_by (N := N_is_quad_of) (sc := (defScope s_is_quad_of)) (by decide +kernel)) (fun _ _ _ _ _ => (g_name (i := 1) sc_is_quad_of.nd rfl (by first | exact .inl rfl | exact .inr rfl))) (fun _ _ _ _ _ => ts_nil) (fun _ _ _ _ _ => (e_callH h_is_short (hr.mono (by decide)) (by rfl) (a_cons (e_var (pv 1)) a_nil))) (by decide)))) ab_nil)))))))) (ss_one (s_ret e_bl)) ss_nil)
      (ss_one (s_ret (e_callB (k_all rfl) (by rfl) n_all (by decide +kernel) (ab_cons (e_b (e_f (f_lc (own := [("number", 1)]) rfl sc_is_quad_of.nd (i_seq (e_var (pv 0))) (blkOk_by (N := N_is_quad_of) (sc := (defScope s_is_quad_of)) (by decide +kernel)) (fun _ _ _ _ _ => (g_name (i := 1) sc_is_quad_of.nd rfl (by first | exact .inl rfl | exact .inr rfl))) (fun _ _ _ _ _ => ts_nil) (fun _ _ _ _ _ => (e_cmp (o_eq hr.units) (e_b (e_op o_mod (e_b (e_op o_sub (b_var (pv 1)) (e_b (e_ix x_ix (b_var (pv 0)) (e_b e_int) (fun _ _ => rfl))))) (e_b e_int))) (e_b e_int) (nomark _))) (by decide)))) ab_nil)))))
abbrev s_need_quad : Stmt := topS 17
abbrev N_need_quad : List Str := ["quad"]
theorem sc_need_quad : FnScope N_need_quad ["quad"] (defScope s_need_quad) := ⟨rfl, rfl, rfl, by decide +kernel, rfl, by decide +kernel, by decide +kernel⟩
def S_need_quad : DS := (dIfS (dNotT (dTru (dCallN 1 m_is_quad_of (dCons (dVar 0) dNil)))) dNever dSkip)
def m_need_quad : List D → Cm D := fnD 1 S_need_quad
theorem ok_need_quad (A0 : DefAt K mg "need_quad" s_need_quad ["quad"]) (h_is_quad_of : Has P w K mg base 3 "is_quad_of" ["thing"] m_is_quad_of) : Has P w K mg base 4 "need_quad" ["quad"] m_need_quad :=
  has_mk 3 A0 sc_need_quad S_need_quad fun f cdv A outer sh H hr =>
    (ss_one (s_if (t_not (t_val (e_callH h_is_quad_of (hr.mono (by decide)) (by rfl) (a_cons (e_var (pv 0)) a_nil)))) (ss_one s_never) ss_nil))
abbrev s_need_two : Stmt := topS 18
abbrev N_need_two : List Str := ["one", "other"]
theorem sc_need_two : FnScope N_need_two ["one", "other"] (defScope s_need_two) := ⟨rfl, rfl, rfl, by decide +kernel, rfl, by decide +kernel, by decide +kernel⟩
def S_need_two : DS := (dSeq (dIfS (dNotT (dTru (dCallN 1 m_is_quad_of (dCons (dVar 0) dNil)))) dNever dSkip)
    (dIfS (dNotT (dTru (dCallN 1 m_is_quad_of (dCons (dVar 1) dNil)))) dNever dSkip))
def m_need_two : List D → Cm D := fnD 2 S_need_two
theorem ok_need_two (A0 : DefAt K mg "need_two" s_need_two ["one", "other"]) (h_is_quad_of : Has P w K mg base 3 "is_quad_of" ["thing"] m_is_quad_of) : Has P w K mg base 4 "need_two" ["one", "other"] m_need_two :=
  has_mk 3 A0 sc_need_two S_need_two fun f cdv A outer sh H hr =>
    (ss_cons (s_if (t_not (t_val (e_callH h_is_quad_of (hr.mono (by decide)) (by rfl) (a_cons (e_var (pv 0)) a_nil)))) (ss_one s_never) ss_nil)
      (ss_one (s_if (t_not (t_val (e_callH h_is_quad_of (hr.mono (by decide)) (by rfl) (a_cons (e_var (pv 1)) a_nil)))) (ss_one s_never) ss_nil)))
abbrev s_short_quad : Stmt := topS 19
abbrev N_short_quad : List Str := ["quad", "number"]
theorem sc_short_quad : FnScope N_short_quad ["quad"] (defScope s_short_quad) := ⟨rfl, rfl, rfl, by decide +kernel, rfl, by decide +kernel, by decide +kernel⟩
def S_short_quad : DS := (dSeq (dIfS (dNotT (dTru (dCall cAll (dCons (dOnlyL (dLc (dItems (dVar 0)) (gN 1) dYes (dCallN 1 m_is_short (dCons (dVar 1) dNil)) [1])) dNil)))) dNever dSkip)
    (dRet (dVar 0)))
def m_short_quad : List D → Cm D := fnD 2 S_short_quad
theorem ok_short_quad (A0 : DefAt K mg "short_quad" s_short_quad ["quad"]) (h_is_short : Has P w K mg base 2 "is_short" ["thing"] m_is_short) (n_all : mg "all" = none) : Has P w K mg base 3 "short_quad" ["quad"] m_short_quad :=
  has_mk 2 A0 sc_short_quad S_short_quad fun f cdv A outer sh H hr =>
    (ss_cons (s_if (t_not (t_val (e_callB (k_all rfl) (by rfl) n_all (by decide +kernel) (ab_cons (e_b (e_f (f_lc (own := [("number", 1)]) rfl sc_short_quad.nd (i_seq (e_var (pv 0))) (blkOk_by (N := N_short_quad) (sc := (defScope s_short_quad)) (by decide +kernel)) (fun _ _ _ _ _ => (g_name (i := 1) sc_short_quad.nd rfl (by first | exact .inl rfl | exact .inr rfl))) (fun _ _ _ _ _ => ts_nil) (fun _ _ _ _ _ => (e_callH h_is_short (hr.mono (by decide)) (by rfl) (a_cons (e_var (pv 1)) a_nil))) (by decide)))) ab_nil)))) (ss_one s_never) ss_nil)
      (ss_one (s_ret (e_var (pv 0)))))
abbrev s_product_by : Stmt := topS 20
abbrev N_product_by : List Str := ["one", "other", "a", "b", "c", "d", "e", "f", "g", "h"]
theorem sc_product_by : FnScope N_product_by ["one", "other"] (defScope s_product_by) := ⟨rfl, rfl, rfl, by decide +kernel, rfl, by decide +kernel, by decide +kernel⟩
def S_product_by : DS := (dSeq (dAsg (dTupF (dCons (dVar 0) (dCons (dVar 1) dNil))) (gTp 2 (gsCons (gTp 4 (gsCons (gN 2) (gsCons (gN 3) (gsCons (gN 4) (gsCons (gN 5) gsNil))))) (gsCons (gTp 4 (gsCons (gN 6) (gsCons (gN 7) (gsCons (gN 8) (gsCons (gN 9) gsNil))))) gsNil))))
    (dRet (dTupF (dCons (dOp vDiv (dOp vSub (dOp vSub (dOp vSub (dOp vMul (dPeek 2) (dPeek 6)) (dOp vMul (dPeek 3) (dPeek 7))) (dOp vMul (dPeek 4) (dPeek 8))) (dOp vMul (dPeek 5) (dPeek 9))) (dCst (.int 2))) (dCons (dOp vDiv (dOp vSub (dOp vAdd (dOp vAdd (dOp vMul (dPeek 2) (dPeek 7)) (dOp vMul (dPeek 3) (dPeek 6))) (dOp vMul (dPeek 4) (dPeek 9))) (dOp vMul (dPeek 5) (dPeek 8))) (dCst (.int 2))) (dCons (dOp vDiv (dOp vAdd (dOp vAdd (dOp vSub (dOp vMul (dPeek 2) (dPeek 8)) (dOp vMul (dPeek 3) (dPeek 9))) (dOp vMul (dPeek 4) (dPeek 6))) (dOp vMul (dPeek 5) (dPeek 7))) (dCst (.int 2))) (dCons (dOp vDiv (dOp vAdd (dOp vSub (dOp vAdd (dOp vMul (dPeek 2) (dPeek 9)) (dOp vMul (dPeek 3) (dPeek 8))) (dOp vMul (dPeek 4) (dPeek 7))) (dOp vMul (dPeek 5) (dPeek 6))) (dCst (.int 2))) dNil)))))))
def m_product_by : List D → Cm D := fnD 10 S_product_by
theorem ok_product_by (A0 : DefAt K mg "product_by" s_product_by ["one", "other"]) : Has P w K mg base 1 "product_by" ["one", "other"] m_product_by :=
  has_mk 0 A0 sc_product_by S_product_by fun f cdv A outer sh H hr =>
    (ss_cons (s_asg (e_tup (a_cons (e_var (pv 0)) (a_cons (e_var (pv 1)) a_nil))) (g_tup (n := 2) rfl (gs_cons (g_tup (n := 4) rfl (gs_cons (g_name (i := 2) sc_product_by.nd rfl (by first | exact .inl rfl | exact .inr rfl)) (gs_cons (g_name (i := 3) sc_product_by.nd rfl (by first | exact .inl rfl | exact .inr rfl)) (gs_cons (g_name (i := 4) sc_product_by.nd rfl (by first | exact .inl rfl | exact .inr rfl)) (gs_cons (g_name (i := 5) sc_product_by.nd rfl (by first | exact .inl rfl | exact .inr rfl)) gs_nil))))) (gs_cons (g_tup (n := 4) rfl (gs_cons (g_name (i := 6) sc_product_by.nd rfl (by first | exact .inl rfl | exact .inr rfl)) (gs_cons (g_name (i := 7) sc_product_by.nd rfl (by first | exact .inl rfl | exact .inr rfl)) (gs_cons (g_name (i := 8) sc_product_by.nd rfl (by first | exact .inl rfl | exact .inr rfl)) (gs_cons (g_name (i := 9) sc_product_by.nd rfl (by first | exact .inl rfl | exact .inr rfl)) gs_nil))))) gs_nil))))
      (ss_one (s_ret (e_tup (a_cons (e_op o_div (e_b (e_op o_sub (e_b (e_op o_sub (e_b (e_op o_sub (e_b (e_op o_mul (b_var (pv 2)) (b_var (pv 6)))) (e_b (e_op o_mul (b_var (pv 3)) (b_var (pv 7)))))) (e_b (e_op o_mul (b_var (pv 4)) (b_var (pv 8)))))) (e_b (e_op o_mul (b_var (pv 5)) (b_var (pv 9)))))) (e_b e_int)) (a_cons (e_op o_div (e_b (e_op o_sub (e_b (e_op o_add (e_b (e_op o_add (e_b (e_op o_mul (b_var (pv 2)) (b_var (pv 7)))) (e_b (e_op o_mul (b_var (pv 3)) (b_var (pv 6)))))) (e_b (e_op o_mul (b_var (pv 4)) (b_var (pv 9)))))) (e_b (e_op o_mul (b_var (pv 5)) (b_var (pv 8)))))) (e_b e_int)) (a_cons (e_op o_div (e_b (e_op o_add (e_b (e_op o_add (e_b (e_op o_sub (e_b (e_op o_mul (b_var (pv 2)) (b_var (pv 8)))) (e_b (e_op o_mul (b_var (pv 3)) (b_var (pv 9)))))) (e_b (e_op o_mul (b_var (pv 4)) (b_var (pv 6)))))) (e_b (e_op o_mul (b_var (pv 5)) (b_var (pv 7)))))) (e_b e_int)) (a_cons (e_op o_div (e_b (e_op o_add (e_b (e_op o_sub (e_b (e_op o_add (e_b (e_op o_mul (b_var (pv 2)) (b_var (pv 9)))) (e_b (e_op o_mul (b_var (pv 3)) (b_var (pv 8)))))) (e_b (e_op o_mul (b_var (pv 4)) (b_var (pv 7)))))) (e_b (e_op o_mul (b_var (pv 5)) (b_var (pv 6)))))) (e_b e_int)) a_nil))))))))
abbrev s_back_by : Stmt := topS 21
abbrev N_back_by : List Str := ["quad"]
theorem sc_back_by : FnScope N_back_by ["quad"] (defScope s_back_by) := ⟨rfl, rfl, rfl, by decide +kernel, rfl, by decide +kernel, by decide +kernel⟩
def S_back_by : DS := (dRet (dTupF (dCons (dOp vIx (dPeek 0) (dCst (.int 0))) (dCons (dUn vNeg (dOp vIx (dPeek 0) (dCst (.int 1)))) (dCons (dUn vNeg (dOp vIx (dPeek 0) (dCst (.int 2)))) (dCons (dUn vNeg (dOp vIx (dPeek 0) (dCst (.int 3)))) dNil))))))
def m_back_by : List D → Cm D := fnD 1 S_back_by
theorem ok_back_by (A0 : DefAt K mg "back_by" s_back_by ["quad"]) : Has P w K mg base 1 "back_by" ["quad"] m_back_by :=
  has_mk 0 A0 sc_back_by S_back_by fun f cdv A outer sh H hr =>
    (ss_one (s_ret (e_tup (a_cons (e_ix x_ix (b_var (pv 0)) (e_b e_int) (fun _ _ => rfl)) (a_cons (e_un u_neg (e_b (e_ix x_ix (b_var (pv 0)) (e_b e_int) (fun _ _ => rfl)))) (a_cons (e_un u_neg (e_b (e_ix x_ix (b_var (pv 0)) (e_b e_int) (fun _ _ => rfl)))) (a_cons (e_un u_neg (e_b (e_ix x_ix (b_var (pv 0)) (e_b e_int) (fun _ _ => rfl)))) a_nil)))))))
abbrev s_size_by : Stmt := topS 22
abbrev N_size_by : List Str := ["quad", "number"]
theorem sc_size_by : FnScope N_size_by ["quad"] (defScope s_size_by) := ⟨rfl, rfl, rfl, by decide +kernel, rfl, by decide +kernel, by decide +kernel⟩
def S_size_by : DS := (dRet (dOp vDiv (dCall cSum (dCons (dOnlyL (dLc (dItems (dVar 0)) (gN 1) dYes (dOp vMul (dPeek 1) (dPeek 1)) [1])) dNil)) (dCst D_PARTS)))
def m_size_by : List D → Cm D := fnD 2 S_size_by
theorem ok_size_by (A0 : DefAt K mg "size_by" s_size_by ["quad"]) (n_sum : mg "sum" = none) (c_PARTS : CstAt K mg "PARTS" D_PARTS) : Has P w K mg base 1 "size_by" ["quad"] m_size_by :=
  has_mk 0 A0 sc_size_by S_size_by fun f cdv A outer sh H hr =>
    (ss_one (s_ret (e_op o_div (e_b (e_callB (k_sum rfl) (by rfl) n_sum (by decide +kernel) (ab_cons (e_b (e_f (f_lc (own := [("number", 1)]) rfl sc_size_by.nd (i_seq (e_var (pv 0))) (blkOk_by (N := N_size_by) (sc := (defScope s_size_by)) (by decide +kernel)) (fun _ _ _ _ _ => (g_name (i := 1) sc_size_by.nd rfl (by first | exact .inl rfl | exact .inr rfl))) (fun _ _ _ _ _ => ts_nil) (fun _ _ _ _ _ => (e_op o_mul (b_var (pv 1)) (b_var (pv 1)))) (by decide)))) ab_nil))) (e_b (e_cst c_PARTS (by rfl))))))
abbrev s_plus_by : Stmt := topS 23
abbrev N_plus_by : List Str := ["one", "other", "many", "first", "second"]
theorem sc_plus_by : FnScope N_plus_by ["one", "other", "many"] (defScope s_plus_by) := ⟨rfl, rfl, rfl, by decide +kernel, rfl, by decide +kernel, by decide +kernel⟩
def S_plus_by : DS := (dRet (dCall cTuple (dCons (dOnlyL (dLc (dZip2 (dCons (dVar 0) (dCons (dVar 1) dNil))) (gTp 2 (gsCons (gN 3) (gsCons (gN 4) gsNil))) dYes (dOp vAdd (dPeek 3) (dOp vMul (dPeek 2) (dPeek 4))) [3, 4])) dNil)))
def m_plus_by : List D → Cm D := fnD 5 S_plus_by
theorem ok_plus_by (A0 : DefAt K mg "plus_by" s_plus_by ["one", "other", "many"]) (n_tuple : mg "tuple" = none) (n_zip : mg "zip" = none) : Has P w K mg base 1 "plus_by" ["one", "other", "many"] m_plus_by :=
  has_mk 0 A0 sc_plus_by S_plus_by fun f cdv A outer sh H hr =>
    (ss_one (s_ret (e_callTy k_tuple (by rfl) n_tuple (by decide +kernel) (ab_cons (e_b (e_f (f_lc (own := [("first", 3), ("second", 4)]) rfl sc_plus_by.nd (i_zip2 (by rfl) n_zip (a_cons (e_var (pv 0)) (a_cons (e_var (pv 1)) a_nil))) (blkOk_by (N := N_plus_by) (sc := (defScope s_plus_by)) (by decide +kernel)) (fun _ _ _ _ _ => (g_tup (n := 2) rfl (gs_cons (g_name (i := 3) sc_plus_by.nd rfl (by first | exact .inl rfl | exact .inr rfl)) (gs_cons (g_name (i := 4) sc_plus_by.nd rfl (by first | exact .inl rfl | exact .inr rfl)) gs_nil)))) (fun _ _ _ _ _ => ts_nil) (fun _ _ _ _ _ => (e_op o_add (b_var (pv 3)) (e_b (e_op o_mul (b_var (pv 2)) (b_var (pv 4)))))) (by decide)))) ab_nil))))
abbrev s_minus_by : Stmt := topS 24
abbrev N_minus_by : List Str := ["one", "other"]
theorem sc_minus_by : FnScope N_minus_by ["one", "other"] (defScope s_minus_by) := ⟨rfl, rfl, rfl, by decide +kernel, rfl, by decide +kernel, by decide +kernel⟩
def S_minus_by : DS := (dRet (dCallN 3 m_plus_by (dCons (dVar 0) (dCons (dVar 1) (dCons (dUn vNeg (dCst (.int 1))) dNil)))))
def m_minus_by : List D → Cm D := fnD 2 S_minus_by
theorem ok_minus_by (A0 : DefAt K mg "minus_by" s_minus_by ["one", "other"]) (h_plus_by : Has P w K mg base 1 "plus_by" ["one", "other", "many"] m_plus_by) : Has P w K mg base 2 "minus_by" ["one", "other"] m_minus_by :=
  has_mk 1 A0 sc_minus_by S_minus_by fun f cdv A outer sh H hr =>
    (ss_one (s_ret (e_callH h_plus_by (hr.mono (by decide)) (by rfl) (a_cons (e_var (pv 0)) (a_cons (e_var (pv 1)) (a_cons (e_un u_neg (e_b e_int)) a_nil))))))
abbrev s_times_number : Stmt := topS 25
abbrev N_times_number : List Str := ["number", "quad", "part"]
theorem sc_times_number : FnScope N_times_number ["number", "quad"] (defScope s_times_number) := ⟨rfl, rfl, rfl, by decide +kernel, rfl, by decide +kernel, by decide +kernel⟩
def S_times_number : DS := (dRet (dCall cTuple (dCons (dOnlyL (dLc (dItems (dVar 1)) (gN 2) dYes (dOp vMul (dPeek 0) (dPeek 2)) [2])) dNil)))
def m_times_number : List D → Cm D := fnD 3 S_times_number
theorem ok_times_number (A0 : DefAt K mg "times_number" s_times_number ["number", "quad"]) (n_tuple : mg "tuple" = none) : Has P w K mg base 1 "times_number" ["number", "quad"] m_times_number :=
  has_mk 0 A0 sc_times_number S_times_number fun f cdv A outer sh H hr =>
    (ss_one (s_ret (e_callTy k_tuple (by rfl) n_tuple (by decide +kernel) (ab_cons (e_b (e_f (f_lc (own := [("part", 2)]) rfl sc_times_number.nd (i_seq (e_var (pv 1))) (blkOk_by (N := N_times_number) (sc := (defScope s_times_number)) (by decide +kernel)) (fun _ _ _ _ _ => (g_name (i := 2) sc_times_number.nd rfl (by first | exact .inl rfl | exact .inr rfl))) (fun _ _ _ _ _ => ts_nil) (fun _ _ _ _ _ => (e_op o_mul (b_var (pv 0)) (b_var (pv 2)))) (by decide)))) ab_nil))))
abbrev s_content_by : Stmt := topS 26
abbrev N_content_by : List Str := ["quad", "shared", "found", "number"]
theorem sc_content_by : FnScope N_content_by ["quad"] (defScope s_content_by) := ⟨rfl, rfl, rfl, by decide +kernel, rfl, by decide +kernel, by decide +kernel⟩
def S_content_by : DS := (dSeq (dSet 1 (dCall cGcd (dCons (dCall cGcd (dCons (dOp vIx (dPeek 0) (dCst (.int 0))) (dCons (dOp vIx (dPeek 0) (dCst (.int 1))) dNil))) (dCons (dCall cGcd (dCons (dOp vIx (dPeek 0) (dCst (.int 2))) (dCons (dOp vIx (dPeek 0) (dCst (.int 3))) dNil))) dNil))))
    (dSeq (dSet 2 (dCall cTuple (dCons (dOnlyL (dLc (dItems (dVar 0)) (gN 3) dYes (dOp vDiv (dPeek 3) (dPeek 1)) [3])) dNil)))
    (dSeq (dIfS (dTru (dCall cAll (dCons (dOnlyL (dLc (dItems (dVar 2)) (gN 3) dYes (dOp vEq (dOp vMod (dPeek 3) (dCst (.int 2))) (dCst (.int 1))) [3])) dNil))) (dRet (dTupF (dCons (dVar 1) (dCons (dVar 2) dNil)))) dSkip)
    (dRet (dTupF (dCons (dOp vDiv (dPeek 1) (dCst (.int 2))) (dCons (dCallN 2 m_times_number (dCons (dCst (.int 2)) (dCons (dVar 2) dNil))) dNil)))))))
def m_content_by : List D → Cm D := fnD 4 S_content_by
theorem ok_content_by (A0 : DefAt K mg "content_by" s_content_by ["quad"]) (h_times_number : Has P w K mg base 1 "times_number" ["number", "quad"] m_times_number) (n_all : mg "all" = none) (n_tuple : mg "tuple" = none) (n_gcd : mg "gcd" = some (.builtin "math.gcd")) : Has P w K mg base 2 "content_by" ["quad"] m_content_by :=
  has_mk 1 A0 sc_content_by S_content_by fun f cdv A outer sh H hr =>
    (ss_cons (s_set (i := 1) sc_content_by.nd rfl (by first | exact .inl rfl | exact .inr rfl) (e_callBf k_gcd (by rfl) n_gcd (ab_cons (e_b (e_callBf k_gcd (by rfl) n_gcd (ab_cons (e_b (e_ix x_ix (b_var (pv 0)) (e_b e_int) (fun _ _ => rfl))) (ab_cons (e_b (e_ix x_ix (b_var (pv 0)) (e_b e_int) (fun _ _ => rfl))) ab_nil)))) (ab_cons (e_b (e_callBf k_gcd (by rfl) n_gcd (ab_cons (e_b (e_ix x_ix (b_var (pv 0)) (e_b e_int) (fun _ _ => rfl))) (ab_cons (e_b (e_ix x_ix (b_var (pv 0)) (e_b e_int) (fun _ _ => rfl))) ab_nil)))) ab_nil))))
      (ss_cons (s_set (i := 2) sc_content_by.nd rfl (by first | exact .inl rfl | exact .inr rfl) (e_callTy k_tuple (by rfl) n_tuple (by decide +kernel) (ab_cons (e_b (e_f (f_lc (own := [("number", 3)]) rfl sc_content_by.nd (i_seq (e_var (pv 0))) (blkOk_by (N := N_content_by) (sc := (defScope s_content_by)) (by decide +kernel)) (fun _ _ _ _ _ => (g_name (i := 3) sc_content_by.nd rfl (by first | exact .inl rfl | exact .inr rfl))) (fun _ _ _ _ _ => ts_nil) (fun _ _ _ _ _ => (e_op o_div (b_var (pv 3)) (b_var (pv 1)))) (by decide)))) ab_nil)))
      (ss_cons (s_if (t_val (e_callB (k_all rfl) (by rfl) n_all (by decide +kernel) (ab_cons (e_b (e_f (f_lc (own := [("number", 3)]) rfl sc_content_by.nd (i_seq (e_var (pv 2))) (blkOk_by (N := N_content_by) (sc := (defScope s_content_by)) (by decide +kernel)) (fun _ _ _ _ _ => (g_name (i := 3) sc_content_by.nd rfl (by first | exact .inl rfl | exact .inr rfl))) (fun _ _ _ _ _ => ts_nil) (fun _ _ _ _ _ => (e_cmp (o_eq hr.units) (e_b (e_op o_mod (b_var (pv 3)) (e_b e_int))) (e_b e_int) (nomark _))) (by decide)))) ab_nil))) (ss_one (s_ret (e_tup (a_cons (e_var (pv 1)) (a_cons (e_var (pv 2)) a_nil))))) ss_nil)
      (ss_one (s_ret (e_tup (a_cons (e_op o_div (b_var (pv 1)) (e_b e_int)) (a_cons (e_callH h_times_number (hr.mono (by decide)) (by rfl) (a_cons e_int (a_cons (e_var (pv 2)) a_nil))) a_nil))))))))
abbrev s_product : Stmt := topS 27
abbrev N_product : List Str := ["one", "other"]
theorem sc_product : FnScope N_product ["one", "other"] (defScope s_product) := ⟨rfl, rfl, rfl, by decide +kernel, rfl, by decide +kernel, by decide +kernel⟩
def S_product : DS := (dSeq (dDrop (dCallN 2 m_need_two (dCons (dVar 0) (dCons (dVar 1) dNil))))
    (dRet (dCallN 1 m_short_quad (dCons (dCallN 2 m_product_by (dCons (dVar 0) (dCons (dVar 1) dNil))) dNil))))
def m_product : List D → Cm D := fnD 2 S_product
theorem ok_product (A0 : DefAt K mg "product" s_product ["one", "other"]) (h_need_two : Has P w K mg base 4 "need_two" ["one", "other"] m_need_two) (h_short_quad : Has P w K mg base 3 "short_quad" ["quad"] m_short_quad) (h_product_by : Has P w K mg base 1 "product_by" ["one", "other"] m_product_by) : Has P w K mg base 5 "product" ["one", "other"] m_product :=
  has_mk 4 A0 sc_product S_product fun f cdv A outer sh H hr =>
    (ss_cons (s_drop (e_callH h_need_two (hr.mono (by decide)) (by rfl) (a_cons (e_var (pv 0)) (a_cons (e_var (pv 1)) a_nil))))
      (ss_one (s_ret (e_callH h_short_quad (hr.mono (by decide)) (by rfl) (a_cons (e_callH h_product_by (hr.mono (by decide)) (by rfl) (a_cons (e_var (pv 0)) (a_cons (e_var (pv 1)) a_nil))) a_nil)))))
abbrev s_back : Stmt := topS 28
abbrev N_back : List Str := ["quad"]
theorem sc_back : FnScope N_back ["quad"] (defScope s_back) := ⟨rfl, rfl, rfl, by decide +kernel, rfl, by decide +kernel, by decide +kernel⟩
def S_back : DS := (dSeq (dDrop (dCallN 1 m_need_quad (dCons (dVar 0) dNil)))
    (dRet (dCallN 1 m_back_by (dCons (dVar 0) dNil))))
def m_back : List D → Cm D := fnD 1 S_back
theorem ok_back (A0 : DefAt K mg "back" s_back ["quad"]) (h_need_quad : Has P w K mg base 4 "need_quad" ["quad"] m_need_quad) (h_back_by : Has P w K mg base 1 "back_by" ["quad"] m_back_by) : Has P w K mg base 5 "back" ["quad"] m_back :=
  has_mk 4 A0 sc_back S_back fun f cdv A outer sh H hr =>
    (ss_cons (s_drop (e_callH h_need_quad (hr.mono (by decide)) (by rfl) (a_cons (e_var (pv 0)) a_nil)))
      (ss_one (s_ret (e_callH h_back_by (hr.mono (by decide)) (by rfl) (a_cons (e_var (pv 0)) a_nil)))))
abbrev s_nearest : Stmt := topS 30
abbrev N_nearest : List Str := ["number", "below", "rest", "low", "gaps", "near", "gap"]
theorem sc_nearest : FnScope N_nearest ["number", "below", "rest"] (defScope s_nearest) := ⟨rfl, rfl, rfl, by decide +kernel, rfl, by decide +kernel, by decide +kernel⟩
def S_nearest : DS := (dSeq (dSet 3 (dOp vAdd (dOp vMul (dOp vDiv (dOp vSub (dPeek 0) (dOp vMul (dPeek 2) (dPeek 1))) (dOp vMul (dCst (.int 2)) (dPeek 1))) (dCst (.int 2))) (dPeek 2)))
    (dSeq (dSet 4 (dOnlyL (dLc (dItems (dTupF (dCons (dVar 3) (dCons (dOp vAdd (dPeek 3) (dCst (.int 2))) dNil)))) (gN 5) dYes (dCall cAbs (dCons (dOp vSub (dOp vMul (dPeek 5) (dPeek 1)) (dPeek 0)) dNil)) [5])))
    (dRet (dOnlyL (dLc (dZipM (dCons (dTupF (dCons (dVar 3) (dCons (dOp vAdd (dPeek 3) (dCst (.int 2))) dNil))) (dCons (dVar 4) dNil))) (gTp 2 (gsCons (gN 5) (gsCons (gN 6) gsNil))) (dTru (dOp vEq (dPeek 6) (dCall cMinL (dCons (dPeek 4) dNil)))) (dVar 5) [5, 6])))))
def m_nearest : List D → Cm D := fnD 7 S_nearest
theorem ok_nearest (A0 : DefAt K mg "nearest" s_nearest ["number", "below", "rest"]) (n_abs : mg "abs" = none) (n_min : mg "min" = none) (n_zip : mg "zip" = none) : Has P w K mg base 1 "nearest" ["number", "below", "rest"] m_nearest :=
  has_mk 0 A0 sc_nearest S_nearest fun f cdv A outer sh H hr =>
    (ss_cons (s_set (i := 3) sc_nearest.nd rfl (by first | exact .inl rfl | exact .inr rfl) (e_op o_add (e_b (e_op o_mul (e_b (e_op o_div (e_b (e_op o_sub (b_var (pv 0)) (e_b (e_op o_mul (b_var (pv 2)) (b_var (pv 1)))))) (e_b (e_op o_mul (e_b e_int) (b_var (pv 1)))))) (e_b e_int))) (b_var (pv 2))))
      (ss_cons (s_set (i := 4) sc_nearest.nd rfl (by first | exact .inl rfl | exact .inr rfl) (e_f (f_lc (own := [("near", 5)]) rfl sc_nearest.nd (i_seq (e_tup (a_cons (e_var (pv 3)) (a_cons (e_op o_add (b_var (pv 3)) (e_b e_int)) a_nil)))) (blkOk_by (N := N_nearest) (sc := (defScope s_nearest)) (by decide +kernel)) (fun _ _ _ _ _ => (g_name (i := 5) sc_nearest.nd rfl (by first | exact .inl rfl | exact .inr rfl))) (fun _ _ _ _ _ => ts_nil) (fun _ _ _ _ _ => (e_callB k_abs (by rfl) n_abs (by decide +kernel) (ab_cons (e_b (e_op o_sub (e_b (e_op o_mul (b_var (pv 5)) (b_var (pv 1)))) (b_var (pv 0)))) ab_nil))) (by decide))))
      (ss_one (s_ret (e_f (f_lc (own := [("near", 5), ("gap", 6)]) rfl sc_nearest.nd (i_zipM (by rfl) n_zip (a_cons (e_tup (a_cons (e_var (pv 3)) (a_cons (e_op o_add (b_var (pv 3)) (e_b e_int)) a_nil))) (a_cons (e_var (pv 4)) a_nil))) (blkOk_by (N := N_nearest) (sc := (defScope s_nearest)) (by decide +kernel)) (fun _ _ _ _ _ => (g_tup (n := 2) rfl (gs_cons (g_name (i := 5) sc_nearest.nd rfl (by first | exact .inl rfl | exact .inr rfl)) (gs_cons (g_name (i := 6) sc_nearest.nd rfl (by first | exact .inl rfl | exact .inr rfl)) gs_nil)))) (fun _ _ _ _ _ => (ts_one (t_cmp (o_eq hr.units) (b_var (pv 6)) (e_b (e_callB (k_min1 rfl (hu65 hr)) (by rfl) n_min (by decide +kernel) (ab_cons (b_var (pv 4)) ab_nil))) (nomark _)))) (fun _ _ _ _ _ => (e_var (pv 5))) (by decide)))))))
abbrev s_near_quads : Stmt := topS 31
abbrev N_near_quads : List Str := ["quad", "below", "found", "rest", "rows", "number", "row", "near"]
theorem sc_near_quads : FnScope N_near_quads ["quad", "below"] (defScope s_near_quads) := ⟨rfl, rfl, rfl, by decide +kernel, rfl, by decide +kernel, by decide +kernel⟩
def S_near_quads : DS := (dSeq (dSetF 2 (dLstF dNil))
    (dSeq (dFor (dItems (dTupF (dCons (dCst (.int 0)) (dCons (dCst (.int 1)) dNil)))) (gN 3) (dSeq (dSet 4 (dOnlyL (dLstF (dCons (dTupF dNil) dNil))))
    (dSeq (dFor (dItems (dVar 0)) (gN 5) (dSet 4 (dOnlyL (dLc2 (dItems (dVar 4)) (gN 6) dYes (dItems (dCallN 3 m_nearest (dCons (dVar 5) (dCons (dVar 1) (dCons (dVar 3) dNil))))) (gN 7) dYes (dTupF (dStar (dVar 6) (dCons (dVar 7) dNil))) [6, 7] [7]))))
    (dExtV 2 (dVar 4)))))
    (dFrz 2 (dRet (dVar 2)))))
def m_near_quads : List D → Cm D := fnD 8 S_near_quads
theorem ok_near_quads (A0 : DefAt K mg "near_quads" s_near_quads ["quad", "below"]) (h_nearest : Has P w K mg base 1 "nearest" ["number", "below", "rest"] m_nearest) : Has P w K mg base 2 "near_quads" ["quad", "below"] m_near_quads :=
  has_mk 1 A0 sc_near_quads S_near_quads fun f cdv A outer sh H hr =>
    (ss_cons (s_setF (i := 2) sc_near_quads.nd rfl (by first | exact .inl rfl | exact .inr rfl) (f_lst a_nil))
      (ss_cons (s_for PassesOwn.never rfl (i_seq (e_tup (a_cons e_int (a_cons e_int a_nil)))) (g_name (i := 3) sc_near_quads.nd rfl (by first | exact .inl rfl | exact .inr rfl)) (ss_cons (s_set (i := 4) sc_near_quads.nd rfl (by first | exact .inl rfl | exact .inr rfl) (e_f (f_lst (a_cons (e_tup a_nil) a_nil))))
      (ss_cons (s_for PassesOwn.never rfl (i_seq (e_var (pv 0))) (g_name (i := 5) sc_near_quads.nd rfl (by first | exact .inl rfl | exact .inr rfl)) (ss_one (s_setLc2V (i := 4) (own := [("row", 6), ("near", 7)]) (vs1 := [7]) rfl sc_near_quads.nd rfl rfl (sw_true rfl rfl rfl (by decide +kernel)) (i_seq (e_var (pv 4))) (blkOk_by (N := N_near_quads) (sc := (defScope s_near_quads)) (by decide +kernel)) (by decide) (fun _ _ _ _ _ => (g_name (i := 6) sc_near_quads.nd rfl (by first | exact .inl rfl | exact .inr rfl))) (fun _ _ _ _ _ => ts_nil) (fun _ _ _ _ _ => (i_seq (e_callH h_nearest (hr.mono (by decide)) (by rfl) (a_cons (e_var (pv 5)) (a_cons (e_var (pv 1)) (a_cons (e_var (pv 3)) a_nil)))))) (fun _ _ _ _ _ => (g_name (i := 7) sc_near_quads.nd rfl (by first | exact .inl rfl | exact .inr rfl))) (fun _ _ _ _ _ => ts_nil) (fun _ _ _ _ _ => (e_tup (a_star (e_var (pv 6)) (a_cons (e_var (pv 7)) a_nil)))) (by decide) (by decide))))
      (ss_one (s_extV (i := 2) (pv 2) (e_var (pv 4)) (fun ho ha => pe_bm PySem.F.plainAttrs_list PySem.F.slot_list_extend PySem.F.type_list_extend mt_extV ho ha))))))
      (ss_one (s_frz 2 (s_ret (e_var (pv 2)))))))
abbrev s_left_by : Stmt := topS 32
abbrev N_left_by : List Str := ["one", "other", "some", "pairs", "whole"]
theorem sc_left_by : FnScope N_left_by ["one", "other"] (defScope s_left_by) := ⟨rfl, rfl, rfl, by decide +kernel, rfl, by decide +kernel, by decide +kernel⟩
def S_left_by : DS := (dSeq (dSet 2 (dCallN 2 m_near_quads (dCons (dCallN 2 m_product_by (dCons (dCallN 1 m_back_by (dCons (dVar 1) dNil)) (dCons (dVar 0) dNil))) (dCons (dCallN 1 m_size_by (dCons (dVar 1) dNil)) dNil))))
    (dSeq (dSet 3 (dCall cSortL (dCons (dOnlyL (dLc (dItems (dVar 2)) (gN 4) dYes (dTupF (dCons (dCallN 1 m_size_by (dCons (dCallN 2 m_minus_by (dCons (dVar 0) (dCons (dCallN 2 m_product_by (dCons (dVar 1) (dCons (dVar 4) dNil))) dNil))) dNil)) (dCons (dVar 4) dNil))) [4])) dNil)))
    (dSeq (dSet 4 (dOp vIx (dOp vIx (dPeek 3) (dCst (.int 0))) (dCst (.int 1))))
    (dRet (dTupF (dCons (dVar 4) (dCons (dCallN 2 m_minus_by (dCons (dVar 0) (dCons (dCallN 2 m_product_by (dCons (dVar 1) (dCons (dVar 4) dNil))) dNil))) dNil)))))))
def m_left_by : List D → Cm D := fnD 5 S_left_by
theorem ok_left_by (A0 : DefAt K mg "left_by" s_left_by ["one", "other"]) (h_near_quads : Has P w K mg base 2 "near_quads" ["quad", "below"] m_near_quads) (h_size_by : Has P w K mg base 1 "size_by" ["quad"] m_size_by) (h_product_by : Has P w K mg base 1 "product_by" ["one", "other"] m_product_by) (h_back_by : Has P w K mg base 1 "back_by" ["quad"] m_back_by) (h_minus_by : Has P w K mg base 2 "minus_by" ["one", "other"] m_minus_by) (n_sorted : mg "sorted" = none) : Has P w K mg base 3 "left_by" ["one", "other"] m_left_by :=
  has_mk 2 A0 sc_left_by S_left_by fun f cdv A outer sh H hr =>
    (ss_cons (s_set (i := 2) sc_left_by.nd rfl (by first | exact .inl rfl | exact .inr rfl) (e_callH h_near_quads (hr.mono (by decide)) (by rfl) (a_cons (e_callH h_product_by (hr.mono (by decide)) (by rfl) (a_cons (e_callH h_back_by (hr.mono (by decide)) (by rfl) (a_cons (e_var (pv 1)) a_nil)) (a_cons (e_var (pv 0)) a_nil))) (a_cons (e_callH h_size_by (hr.mono (by decide)) (by rfl) (a_cons (e_var (pv 1)) a_nil)) a_nil))))
      (ss_cons (s_set (i := 3) sc_left_by.nd rfl (by first | exact .inl rfl | exact .inr rfl) (e_callB (k_sort1 (hu65 hr)) (by rfl) n_sorted (by decide +kernel) (ab_cons (e_b (e_f (f_lc (own := [("whole", 4)]) rfl sc_left_by.nd (i_seq (e_var (pv 2))) (blkOk_by (N := N_left_by) (sc := (defScope s_left_by)) (by decide +kernel)) (fun _ _ _ _ _ => (g_name (i := 4) sc_left_by.nd rfl (by first | exact .inl rfl | exact .inr rfl))) (fun _ _ _ _ _ => ts_nil) (fun _ _ _ _ _ => (e_tup (a_cons (e_callH h_size_by (hr.mono (by decide)) (by rfl) (a_cons (e_callH h_minus_by (hr.mono (by decide)) (by rfl) (a_cons (e_var (pv 0)) (a_cons (e_callH h_product_by (hr.mono (by decide)) (by rfl) (a_cons (e_var (pv 1)) (a_cons (e_var (pv 4)) a_nil))) a_nil))) a_nil)) (a_cons (e_var (pv 4)) a_nil)))) (by decide)))) ab_nil)))
      (ss_cons (s_set (i := 4) sc_left_by.nd rfl (by first | exact .inl rfl | exact .inr rfl) (e_ix x_ix (e_b (e_ix x_ix (b_var (pv 3)) (e_b e_int) (fun _ _ => rfl))) (e_b e_int) (fun _ _ => rfl)))
      (ss_one (s_ret (e_tup (a_cons (e_var (pv 4)) (a_cons (e_callH h_minus_by (hr.mono (by decide)) (by rfl) (a_cons (e_var (pv 0)) (a_cons (e_callH h_product_by (hr.mono (by decide)) (by rfl) (a_cons (e_var (pv 1)) (a_cons (e_var (pv 4)) a_nil))) a_nil))) a_nil))))))))
abbrev s_first_by : Stmt := topS 35
abbrev N_first_by : List Str := ["quad", "unit"]
theorem sc_first_by : FnScope N_first_by ["quad"] (defScope s_first_by) := ⟨rfl, rfl, rfl, by decide +kernel, rfl, by decide +kernel, by decide +kernel⟩
def S_first_by : DS := (dRet (dCall cMaxL (dCons (dOnlyL (dLc (dItems (dCst D_UNITS)) (gN 1) dYes (dCallN 2 m_product_by (dCons (dVar 0) (dCons (dVar 1) dNil))) [1])) dNil)))
def m_first_by : List D → Cm D := fnD 2 S_first_by
theorem ok_first_by (A0 : DefAt K mg "first_by" s_first_by ["quad"]) (h_product_by : Has P w K mg base 1 "product_by" ["one", "other"] m_product_by) (n_max : mg "max" = none) (c_UNITS : CstAt K mg "UNITS" D_UNITS) : Has P w K mg base 2 "first_by" ["quad"] m_first_by :=
  has_mk 1 A0 sc_first_by S_first_by fun f cdv A outer sh H hr =>
    (ss_one (s_ret (e_callB (k_max1 rfl (hu65 hr)) (by rfl) n_max (by decide +kernel) (ab_cons (e_b (e_f (f_lc (own := [("unit", 1)]) rfl sc_first_by.nd (i_seq (e_cst c_UNITS (by rfl))) (blkOk_by (N := N_first_by) (sc := (defScope s_first_by)) (by decide +kernel)) (fun _ _ _ _ _ => (g_name (i := 1) sc_first_by.nd rfl (by first | exact .inl rfl | exact .inr rfl))) (fun _ _ _ _ _ => ts_nil) (fun _ _ _ _ _ => (e_callH h_product_by (hr.mono (by decide)) (by rfl) (a_cons (e_var (pv 0)) (a_cons (e_var (pv 1)) a_nil)))) (by decide)))) ab_nil))))
abbrev s_left_common : Stmt := topS 37
abbrev N_left_common : List Str := ["one", "other", "here", "late"]
theorem sc_left_common : FnScope N_left_common ["one", "other"] (defScope s_left_common) := ⟨rfl, rfl, rfl, by decide +kernel, rfl, by decide +kernel, by decide +kernel⟩
def S_left_common : DS := (dSeq (dPar 2 3 (dVar 0) (dVar 1))
    (dSeq (whileGo (dTru (dOp vNe (dPeek 3) (dCst D_NOUGHT))) (dPar 2 3 (dVar 3) (dOp vIx (dCallN 2 m_left_by (dCons (dVar 2) (dCons (dVar 3) dNil))) (dCst (.int 1)))) FUEL)
    (dRet (dCallN 1 m_first_by (dCons (dVar 2) dNil)))))
def m_left_common : List D → Cm D := fnD 4 S_left_common
theorem ok_left_common (A0 : DefAt K mg "left_common" s_left_common ["one", "other"]) (h_left_by : Has P w K mg base 3 "left_by" ["one", "other"] m_left_by) (h_first_by : Has P w K mg base 2 "first_by" ["quad"] m_first_by) (c_NOUGHT : CstAt K mg "NOUGHT" D_NOUGHT) : Has P w K mg base 4 "left_common" ["one", "other"] m_left_common :=
  has_mk 3 A0 sc_left_common S_left_common fun f cdv A outer sh H hr =>
    (ss_cons (s_par (i := 2) (j := 3) rfl sc_left_common.nd rfl rfl (by decide) rfl rfl (e_var (pv 0)) (e_var (pv 1)) (by rfl))
      (ss_cons (s_while FUEL PassesOwn.never (t_cmp (o_ne hr.units) (b_var (pv 3)) (e_b (e_cst c_NOUGHT (by rfl))) (nomark _)) (ss_one (s_par (i := 2) (j := 3) rfl sc_left_common.nd rfl rfl (by decide) rfl rfl (e_var (pv 3)) (e_ix x_ix (e_b (e_callH h_left_by (hr.mono (by decide)) (by rfl) (a_cons (e_var (pv 2)) (a_cons (e_var (pv 3)) a_nil)))) (e_b e_int) (fun _ _ => rfl)) (by rfl))))
      (ss_one (s_ret (e_callH h_first_by (hr.mono (by decide)) (by rfl) (a_cons (e_var (pv 2)) a_nil))))))
abbrev s_is_prime : Stmt := topS 41
abbrev N_is_prime : List Str := ["thing", "number"]
theorem sc_is_prime : FnScope N_is_prime ["thing"] (defScope s_is_prime) := ⟨rfl, rfl, rfl, by decide +kernel, rfl, by decide +kernel, by decide +kernel⟩
def S_is_prime : DS := (dSeq (dIfS (dOrT (dNotT (dTru (dCallN 1 m_is_number (dCons (dVar 0) dNil)))) (dNotT (dTru (dChain (vCmp pLt) (vCmp pLt) (dCst (.int 1)) (dPeek 0) (dCst D_MOST_PRIME))))) (dRet (dCst (.bool false))) dSkip)
    (dRet (dCall cAll (dCons (dOnlyL (dLc (dRng2 (dCons (dCst (.int 2)) (dCons (dVar 0) dNil))) (gN 1) (dTru (dOp (vCmp pLe) (dOp vMul (dPeek 1) (dPeek 1)) (dPeek 0))) (dOp vNe (dOp vMod (dPeek 0) (dPeek 1)) (dCst (.int 0))) [1])) dNil))))
def m_is_prime : List D → Cm D := fnD 2 S_is_prime
theorem ok_is_prime (A0 : DefAt K mg "is_prime" s_is_prime ["thing"]) (h_is_number : Has P w K mg base 1 "is_number" ["thing"] m_is_number) (n_all : mg "all" = none) (n_range : mg "range" = none) (c_MOST_PRIME : CstAt K mg "MOST_PRIME" D_MOST_PRIME) : Has P w K mg base 2 "is_prime" ["thing"] m_is_prime :=
  has_mk 1 A0 sc_is_prime S_is_prime fun f cdv A outer sh H hr =>
    (ss_cons (s_if (PW.pt (w_or (t_not (t_val (e_callH h_is_number (hr.mono (by decide)) (by rfl) (a_cons (e_var (pv 0)) a_nil)))) (w_or1 (t_not (t_chain o_lt o_lt (e_b e_int) (b_var (pv 0)) (e_b (e_cst c_MOST_PRIME (by rfl)))))))) (ss_one (s_ret e_bl)) ss_nil)
      (ss_one (s_ret (e_callB (k_all rfl) (by rfl) n_all (by decide +kernel) (ab_cons (e_b (e_f (f_lc (own := [("number", 1)]) rfl sc_is_prime.nd (i_rng2 (by rfl) n_range (a_cons e_int (a_cons (e_var (pv 0)) a_nil))) (blkOk_by (N := N_is_prime) (sc := (defScope s_is_prime)) (by decide +kernel)) (fun _ _ _ _ _ => (g_name (i := 1) sc_is_prime.nd rfl (by first | exact .inl rfl | exact .inr rfl))) (fun _ _ _ _ _ => (ts_one (t_cmp o_le (e_b (e_op o_mul (b_var (pv 1)) (b_var (pv 1)))) (b_var (pv 0)) (nomark _)))) (fun _ _ _ _ _ => (e_cmp (o_ne hr.units) (e_b (e_op o_mod (b_var (pv 0)) (b_var (pv 1)))) (e_b e_int) (nomark _))) (by decide)))) ab_nil)))))
abbrev s_need_prime : Stmt := topS 42
abbrev N_need_prime : List Str := ["prime"]
theorem sc_need_prime : FnScope N_need_prime ["prime"] (defScope s_need_prime) := ⟨rfl, rfl, rfl, by decide +kernel, rfl, by decide +kernel, by decide +kernel⟩
def S_need_prime : DS := (dIfS (dNotT (dTru (dCallN 1 m_is_prime (dCons (dVar 0) dNil)))) dNever dSkip)
def m_need_prime : List D → Cm D := fnD 1 S_need_prime
theorem ok_need_prime (A0 : DefAt K mg "need_prime" s_need_prime ["prime"]) (h_is_prime : Has P w K mg base 2 "is_prime" ["thing"] m_is_prime) : Has P w K mg base 3 "need_prime" ["prime"] m_need_prime :=
  has_mk 2 A0 sc_need_prime S_need_prime fun f cdv A outer sh H hr =>
    (ss_one (s_if (t_not (t_val (e_callH h_is_prime (hr.mono (by decide)) (by rfl) (a_cons (e_var (pv 0)) a_nil)))) (ss_one s_never) ss_nil))
abbrev s_root_of : Stmt := topS 43
abbrev N_root_of : List Str := ["number", "found"]
theorem sc_root_of : FnScope N_root_of ["number"] (defScope s_root_of) := ⟨rfl, rfl, rfl, by decide +kernel, rfl, by decide +kernel, by decide +kernel⟩
def S_root_of : DS := (dSeq (dSet 1 (dCst (.int 0)))
    (dSeq (whileGo (dTru (dOp (vCmp pLe) (dOp vMul (dOp vAdd (dPeek 1) (dCst (.int 1))) (dOp vAdd (dPeek 1) (dCst (.int 1)))) (dPeek 0))) (dSet 1 (dOp vAdd (dPeek 1) (dCst (.int 1)))) FUEL)
    (dRet (dVar 1))))
def m_root_of : List D → Cm D := fnD 2 S_root_of
theorem ok_root_of (A0 : DefAt K mg "root_of" s_root_of ["number"]) : Has P w K mg base 1 "root_of" ["number"] m_root_of :=
  has_mk 0 A0 sc_root_of S_root_of fun f cdv A outer sh H hr =>
    (ss_cons (s_set (i := 1) sc_root_of.nd rfl (by first | exact .inl rfl | exact .inr rfl) e_int)
      (ss_cons (s_while FUEL PassesOwn.never (t_cmp o_le (e_b (e_op o_mul (e_b (e_op o_add (b_var (pv 1)) (e_b e_int))) (e_b (e_op o_add (b_var (pv 1)) (e_b e_int))))) (b_var (pv 0)) (nomark _)) (ss_one (s_set (i := 1) sc_root_of.nd rfl (by first | exact .inl rfl | exact .inr rfl) (e_op o_add (b_var (pv 1)) (e_b e_int)))))
      (ss_one (s_ret (e_var (pv 1))))))
abbrev s_squares_of : Stmt := topS 45
abbrev N_squares_of : List Str := ["number", "most", "found", "c", "left", "d"]
theorem sc_squares_of : FnScope N_squares_of ["number", "most"] (defScope s_squares_of) := ⟨rfl, rfl, rfl, by decide +kernel, rfl, by decide +kernel, by decide +kernel⟩
def S_squares_of : DS := (dSeq (dSetF 2 (dLstF dNil))
    (dSeq (dFor (dRng3 (dCons (dUn vNeg (dPeek 1)) (dCons (dOp vAdd (dPeek 1) (dCst (.int 1))) (dCons (dCst (.int 2)) dNil)))) (gN 3) (dSeq (dSet 4 (dOp vSub (dPeek 0) (dOp vMul (dPeek 3) (dPeek 3))))
    (dSeq (dSet 5 (dIf (dTru (dOp (vCmp pGe) (dPeek 4) (dCst (.int 0)))) (dCallN 1 m_root_of (dCons (dVar 4) dNil)) (dCst (.int 0))))
    (dIfS (dAndT (dTru (dOp (vCmp pGe) (dPeek 4) (dCst (.int 0)))) (dAndT (dTru (dOp vEq (dOp vMul (dPeek 5) (dPeek 5)) (dPeek 4))) (dAndT (dTru (dOp (vCmp pLe) (dPeek 5) (dPeek 1))) (dTru (dOp vEq (dOp vMod (dOp vSub (dPeek 5) (dPeek 1)) (dCst (.int 2))) (dCst (.int 0))))))) (dExt 2 (dIf (dTru (dOp (vCmp pGt) (dPeek 5) (dCst (.int 0)))) (dOnlyL (dLstF (dCons (dTupF (dCons (dVar 3) (dCons (dVar 5) dNil))) (dCons (dTupF (dCons (dVar 3) (dCons (dUn vNeg (dPeek 5)) dNil))) dNil)))) (dOnlyL (dLstF (dCons (dTupF (dCons (dVar 3) (dCons (dCst (.int 0)) dNil))) dNil))))) dSkip))))
    (dFrz 2 (dRet (dVar 2)))))
def m_squares_of : List D → Cm D := fnD 6 S_squares_of
theorem ok_squares_of (A0 : DefAt K mg "squares_of" s_squares_of ["number", "most"]) (h_root_of : Has P w K mg base 1 "root_of" ["number"] m_root_of) (n_range : mg "range" = none) : Has P w K mg base 2 "squares_of" ["number", "most"] m_squares_of :=
  has_mk 1 A0 sc_squares_of S_squares_of fun f cdv A outer sh H hr =>
    (ss_cons (s_setF (i := 2) sc_squares_of.nd rfl (by first | exact .inl rfl | exact .inr rfl) (f_lst a_nil))
      (ss_cons (s_for PassesOwn.never rfl (i_rng3 (by rfl) n_range (a_cons (e_un u_neg (b_var (pv 1))) (a_cons (e_op o_add (b_var (pv 1)) (e_b e_int)) (a_cons e_int a_nil)))) (g_name (i := 3) sc_squares_of.nd rfl (by first | exact .inl rfl | exact .inr rfl)) (ss_cons (s_set (i := 4) sc_squares_of.nd rfl (by first | exact .inl rfl | exact .inr rfl) (e_op o_sub (b_var (pv 0)) (e_b (e_op o_mul (b_var (pv 3)) (b_var (pv 3))))))
      (ss_cons (s_set (i := 5) sc_squares_of.nd rfl (by first | exact .inl rfl | exact .inr rfl) (e_ifExp (t_cmp o_ge (b_var (pv 4)) (e_b e_int) (nomark _)) (e_callH h_root_of (hr.mono (by decide)) (by rfl) (a_cons (e_var (pv 4)) a_nil)) e_int))
      (ss_one (s_if (PW.pt (w_and (t_cmp o_ge (b_var (pv 4)) (e_b e_int) (nomark _)) (w_and (t_cmp (o_eq hr.units) (e_b (e_op o_mul (b_var (pv 5)) (b_var (pv 5)))) (b_var (pv 4)) (nomark _)) (w_and (t_cmp o_le (b_var (pv 5)) (b_var (pv 1)) (nomark _)) (w_and1 (t_cmp (o_eq hr.units) (e_b (e_op o_mod (e_b (e_op o_sub (b_var (pv 5)) (b_var (pv 1)))) (e_b e_int))) (e_b e_int) (nomark _))))))) (ss_one (s_ext (i := 2) (pv 2) (x_ifExp (t_cmp o_gt (b_var (pv 5)) (e_b e_int) (nomark _)) (x_f (f_lst (a_cons (e_tup (a_cons (e_var (pv 3)) (a_cons (e_var (pv 5)) a_nil))) (a_cons (e_tup (a_cons (e_var (pv 3)) (a_cons (e_un u_neg (b_var (pv 5))) a_nil))) a_nil)))) (x_f (f_lst (a_cons (e_tup (a_cons (e_var (pv 3)) (a_cons e_int a_nil))) a_nil)))) (fun ho ha => pe_bm PySem.F.plainAttrs_list PySem.F.slot_list_extend PySem.F.type_list_extend mt_extend ho ha))) ss_nil)))))
      (ss_one (s_frz 2 (s_ret (e_var (pv 2)))))))
abbrev s_left_by_prime : Stmt := topS 47
abbrev N_left_by_prime : List Str := ["quad", "prime"]
theorem sc_left_by_prime : FnScope N_left_by_prime ["quad", "prime"] (defScope s_left_by_prime) := ⟨rfl, rfl, rfl, by decide +kernel, rfl, by decide +kernel, by decide +kernel⟩
def S_left_by_prime : DS := (dRet (dCallN 2 m_left_common (dCons (dVar 0) (dCons (dTupF (dCons (dOp vMul (dCst (.int 2)) (dPeek 1)) (dCons (dCst (.int 0)) (dCons (dCst (.int 0)) (dCons (dCst (.int 0)) dNil))))) dNil))))
def m_left_by_prime : List D → Cm D := fnD 2 S_left_by_prime
theorem ok_left_by_prime (A0 : DefAt K mg "left_by_prime" s_left_by_prime ["quad", "prime"]) (h_left_common : Has P w K mg base 4 "left_common" ["one", "other"] m_left_common) : Has P w K mg base 5 "left_by_prime" ["quad", "prime"] m_left_by_prime :=
  has_mk 4 A0 sc_left_by_prime S_left_by_prime fun f cdv A outer sh H hr =>
    (ss_one (s_ret (e_callH h_left_common (hr.mono (by decide)) (by rfl) (a_cons (e_var (pv 0)) (a_cons (e_tup (a_cons (e_op o_mul (e_b e_int) (b_var (pv 1))) (a_cons e_int (a_cons e_int (a_cons e_int a_nil))))) a_nil)))))
abbrev s_is_divided_by : Stmt := topS 48
abbrev N_is_divided_by : List Str := ["quad", "prime"]
theorem sc_is_divided_by : FnScope N_is_divided_by ["quad", "prime"] (defScope s_is_divided_by) := ⟨rfl, rfl, rfl, by decide +kernel, rfl, by decide +kernel, by decide +kernel⟩
def S_is_divided_by : DS := (dRet (dOrV (dOp vEq (dPeek 0) (dCst D_NOUGHT)) (dOp vEq (dOp vMod (dOp vIx (dCallN 1 m_content_by (dCons (dVar 0) dNil)) (dCst (.int 0))) (dPeek 1)) (dCst (.int 0)))))
def m_is_divided_by : List D → Cm D := fnD 2 S_is_divided_by
theorem ok_is_divided_by (A0 : DefAt K mg "is_divided_by" s_is_divided_by ["quad", "prime"]) (h_content_by : Has P w K mg base 2 "content_by" ["quad"] m_content_by) (c_NOUGHT : CstAt K mg "NOUGHT" D_NOUGHT) : Has P w K mg base 3 "is_divided_by" ["quad", "prime"] m_is_divided_by :=
  has_mk 2 A0 sc_is_divided_by S_is_divided_by fun f cdv A outer sh H hr =>
    (ss_one (s_ret (e_or (e_cmp (o_eq hr.units) (b_var (pv 0)) (e_b (e_cst c_NOUGHT (by rfl))) (nomark _)) (e_one (e_cmp (o_eq hr.units) (e_b (e_op o_mod (e_b (e_ix x_ix (e_b (e_callH h_content_by (hr.mono (by decide)) (by rfl) (a_cons (e_var (pv 0)) a_nil))) (e_b e_int) (fun _ _ => rfl))) (b_var (pv 1)))) (e_b e_int) (nomark _))))))
abbrev s_need_left : Stmt := topS 49
abbrev N_need_left : List Str := ["quad", "prime"]
theorem sc_need_left : FnScope N_need_left ["quad", "prime"] (defScope s_need_left) := ⟨rfl, rfl, rfl, by decide +kernel, rfl, by decide +kernel, by decide +kernel⟩
def S_need_left : DS := (dSeq (dDrop (dCallN 1 m_need_quad (dCons (dVar 0) dNil)))
    (dSeq (dIfS (dTru (dOp vEq (dPeek 0) (dCst D_NOUGHT))) dNever dSkip)
    (dSeq (dDrop (dCallN 1 m_need_prime (dCons (dVar 1) dNil)))
    (dIfS (dOrT (dTru (dOp vNe (dOp vMod (dCallN 1 m_size_by (dCons (dVar 0) dNil)) (dPeek 1)) (dCst (.int 0)))) (dTru (dCallN 2 m_is_divided_by (dCons (dVar 0) (dCons (dVar 1) dNil))))) dNever dSkip))))
def m_need_left : List D → Cm D := fnD 2 S_need_left
theorem ok_need_left (A0 : DefAt K mg "need_left" s_need_left ["quad", "prime"]) (h_need_quad : Has P w K mg base 4 "need_quad" ["quad"] m_need_quad) (h_need_prime : Has P w K mg base 3 "need_prime" ["prime"] m_need_prime) (h_size_by : Has P w K mg base 1 "size_by" ["quad"] m_size_by) (h_is_divided_by : Has P w K mg base 3 "is_divided_by" ["quad", "prime"] m_is_divided_by) (c_NOUGHT : CstAt K mg "NOUGHT" D_NOUGHT) : Has P w K mg base 5 "need_left" ["quad", "prime"] m_need_left :=
  has_mk 4 A0 sc_need_left S_need_left fun f cdv A outer sh H hr =>
    (ss_cons (s_drop (e_callH h_need_quad (hr.mono (by decide)) (by rfl) (a_cons (e_var (pv 0)) a_nil)))
      (ss_cons (s_if (t_cmp (o_eq hr.units) (b_var (pv 0)) (e_b (e_cst c_NOUGHT (by rfl))) (nomark _)) (ss_one s_never) ss_nil)
      (ss_cons (s_drop (e_callH h_need_prime (hr.mono (by decide)) (by rfl) (a_cons (e_var (pv 1)) a_nil)))
      (ss_one (s_if (PW.pt (w_or (t_cmp (o_ne hr.units) (e_b (e_op o_mod (e_b (e_callH h_size_by (hr.mono (by decide)) (by rfl) (a_cons (e_var (pv 0)) a_nil))) (b_var (pv 1)))) (e_b e_int) (nomark _)) (w_or1 (t_val (e_callH h_is_divided_by (hr.mono (by decide)) (by rfl) (a_cons (e_var (pv 0)) (a_cons (e_var (pv 1)) a_nil))))))) (ss_one s_never) ss_nil)))))
abbrev s_left_of : Stmt := topS 50
abbrev N_left_of : List Str := ["quad", "prime"]
theorem sc_left_of : FnScope N_left_of ["quad", "prime"] (defScope s_left_of) := ⟨rfl, rfl, rfl, by decide +kernel, rfl, by decide +kernel, by decide +kernel⟩
def S_left_of : DS := (dSeq (dDrop (dCallN 2 m_need_left (dCons (dVar 0) (dCons (dVar 1) dNil))))
    (dRet (dCallN 2 m_left_by_prime (dCons (dVar 0) (dCons (dVar 1) dNil)))))
def m_left_of : List D → Cm D := fnD 2 S_left_of
theorem ok_left_of (A0 : DefAt K mg "left_of" s_left_of ["quad", "prime"]) (h_need_left : Has P w K mg base 5 "need_left" ["quad", "prime"] m_need_left) (h_left_by_prime : Has P w K mg base 5 "left_by_prime" ["quad", "prime"] m_left_by_prime) : Has P w K mg base 6 "left_of" ["quad", "prime"] m_left_of :=
  has_mk 5 A0 sc_left_of S_left_of fun f cdv A outer sh H hr =>
    (ss_cons (s_drop (e_callH h_need_left (hr.mono (by decide)) (by rfl) (a_cons (e_var (pv 0)) (a_cons (e_var (pv 1)) a_nil))))
      (ss_one (s_ret (e_callH h_left_by_prime (hr.mono (by decide)) (by rfl) (a_cons (e_var (pv 0)) (a_cons (e_var (pv 1)) a_nil))))))
abbrev s_is_divided : Stmt := topS 51
abbrev N_is_divided : List Str := ["quad", "prime"]
theorem sc_is_divided : FnScope N_is_divided ["quad", "prime"] (defScope s_is_divided) := ⟨rfl, rfl, rfl, by decide +kernel, rfl, by decide +kernel, by decide +kernel⟩
def S_is_divided : DS := (dSeq (dDrop (dCallN 1 m_need_quad (dCons (dVar 0) dNil)))
    (dSeq (dDrop (dCallN 1 m_need_prime (dCons (dVar 1) dNil)))
    (dRet (dCallN 2 m_is_divided_by (dCons (dVar 0) (dCons (dVar 1) dNil))))))
def m_is_divided : List D → Cm D := fnD 2 S_is_divided
theorem ok_is_divided (A0 : DefAt K mg "is_divided" s_is_divided ["quad", "prime"]) (h_need_quad : Has P w K mg base 4 "need_quad" ["quad"] m_need_quad) (h_need_prime : Has P w K mg base 3 "need_prime" ["prime"] m_need_prime) (h_is_divided_by : Has P w K mg base 3 "is_divided_by" ["quad", "prime"] m_is_divided_by) : Has P w K mg base 5 "is_divided" ["quad", "prime"] m_is_divided :=
  has_mk 4 A0 sc_is_divided S_is_divided fun f cdv A outer sh H hr =>
    (ss_cons (s_drop (e_callH h_need_quad (hr.mono (by decide)) (by rfl) (a_cons (e_var (pv 0)) a_nil)))
      (ss_cons (s_drop (e_callH h_need_prime (hr.mono (by decide)) (by rfl) (a_cons (e_var (pv 1)) a_nil)))
      (ss_one (s_ret (e_callH h_is_divided_by (hr.mono (by decide)) (by rfl) (a_cons (e_var (pv 0)) (a_cons (e_var (pv 1)) a_nil)))))))
abbrev s_need_odd : Stmt := topS 53
abbrev N_need_odd : List Str := ["prime"]
theorem sc_need_odd : FnScope N_need_odd ["prime"] (defScope s_need_odd) := ⟨rfl, rfl, rfl, by decide +kernel, rfl, by decide +kernel, by decide +kernel⟩
def S_need_odd : DS := (dSeq (dDrop (dCallN 1 m_need_prime (dCons (dVar 0) dNil)))
    (dIfS (dTru (dOp vEq (dPeek 0) (dCst (.int 2)))) dNever dSkip))
def m_need_odd : List D → Cm D := fnD 1 S_need_odd
theorem ok_need_odd (A0 : DefAt K mg "need_odd" s_need_odd ["prime"]) (h_need_prime : Has P w K mg base 3 "need_prime" ["prime"] m_need_prime) : Has P w K mg base 4 "need_odd" ["prime"] m_need_odd :=
  has_mk 3 A0 sc_need_odd S_need_odd fun f cdv A outer sh H hr =>
    (ss_cons (s_drop (e_callH h_need_prime (hr.mono (by decide)) (by rfl) (a_cons (e_var (pv 0)) a_nil)))
      (ss_one (s_if (t_cmp (o_eq hr.units) (b_var (pv 0)) (e_b e_int) (nomark _)) (ss_one s_never) ss_nil)))
abbrev s_marks_by : Stmt := topS 54
abbrev N_marks_by : List Str := ["prime", "roots", "number", "e", "left"]
theorem sc_marks_by : FnScope N_marks_by ["prime"] (defScope s_marks_by) := ⟨rfl, rfl, rfl, by decide +kernel, rfl, by decide +kernel, by decide +kernel⟩
def S_marks_by : DS := (dSeq (dSetF 1 dNewD)
    (dSeq (dFor (dRng3 (dCons (dOp vSub (dPeek 0) (dCst (.int 1))) (dCons (dUn vNeg (dCst (.int 1))) (dCons (dUn vNeg (dCst (.int 1))) dNil)))) (gN 2) (dDPut 1 (dOp vMod (dOp vMul (dPeek 2) (dPeek 2)) (dPeek 0)) (dVar 2)))
    (dSeq (dFor (dRng1 (dCons (dVar 0) dNil)) (gN 3) (dSeq (dSet 4 (dOp vMod (dOp vSub (dUn vNeg (dCst (.int 1))) (dOp vMul (dPeek 3) (dPeek 3))) (dPeek 0)))
    (dIfS (dTru (dOp vDIn (dPeek 4) (dPeek 1))) (dRet (dTupF (dCons (dVar 3) (dCons (dOp vDGet (dPeek 1) (dPeek 4)) dNil)))) dSkip)))
    (dRet (dTupF (dCons (dCst (.int 0)) (dCons (dCst (.int 0)) dNil)))))))
def m_marks_by : List D → Cm D := fnD 5 S_marks_by
theorem ok_marks_by (A0 : DefAt K mg "marks_by" s_marks_by ["prime"]) (n_range : mg "range" = none) : Has P w K mg base 1 "marks_by" ["prime"] m_marks_by :=
  has_mk 0 A0 sc_marks_by S_marks_by fun f cdv A outer sh H hr =>
    (ss_cons (s_setF (i := 1) sc_marks_by.nd rfl (by first | exact .inl rfl | exact .inr rfl) f_dnew)
      (ss_cons (s_for PassesOwn.never rfl (i_rng3 (by rfl) n_range (a_cons (e_op o_sub (b_var (pv 0)) (e_b e_int)) (a_cons (e_un u_neg (e_b e_int)) (a_cons (e_un u_neg (e_b e_int)) a_nil)))) (g_name (i := 2) sc_marks_by.nd rfl (by first | exact .inl rfl | exact .inr rfl)) (ss_one (s_dput (i := 1) (hu65 hr) (pv 1) (e_op o_mod (e_b (e_op o_mul (b_var (pv 2)) (b_var (pv 2)))) (b_var (pv 0))) (e_var (pv 2)))))
      (ss_cons (s_for PassesOwn.never rfl (i_rng1 (by rfl) n_range (a_cons (e_var (pv 0)) a_nil)) (g_name (i := 3) sc_marks_by.nd rfl (by first | exact .inl rfl | exact .inr rfl)) (ss_cons (s_set (i := 4) sc_marks_by.nd rfl (by first | exact .inl rfl | exact .inr rfl) (e_op o_mod (e_b (e_op o_sub (e_b (e_un u_neg (e_b e_int))) (e_b (e_op o_mul (b_var (pv 3)) (b_var (pv 3)))))) (b_var (pv 0))))
      (ss_one (s_if (t_dinB (hu65 hr) (b_var (pv 4)) (b_var (pv 1))) (ss_one (s_ret (e_tup (a_cons (e_var (pv 3)) (a_cons (e_dgetB (hu65 hr) (b_var (pv 1)) (b_var (pv 4)) (fun _ _ => rfl)) a_nil))))) ss_nil))))
      (ss_one (s_ret (e_tup (a_cons e_int (a_cons e_int a_nil))))))))
abbrev s_half_by : Stmt := topS 55
abbrev N_half_by : List Str := ["prime", "number", "rest"]
theorem sc_half_by : FnScope N_half_by ["prime", "number"] (defScope s_half_by) := ⟨rfl, rfl, rfl, by decide +kernel, rfl, by decide +kernel, by decide +kernel⟩
def S_half_by : DS := (dSeq (dSet 2 (dOp vMod (dPeek 1) (dPeek 0)))
    (dRet (dIf (dTru (dOp vEq (dOp vMod (dPeek 2) (dCst (.int 2))) (dCst (.int 0)))) (dOp vDiv (dPeek 2) (dCst (.int 2))) (dOp vDiv (dOp vAdd (dPeek 2) (dPeek 0)) (dCst (.int 2))))))
def m_half_by : List D → Cm D := fnD 3 S_half_by
theorem ok_half_by (A0 : DefAt K mg "half_by" s_half_by ["prime", "number"]) : Has P w K mg base 1 "half_by" ["prime", "number"] m_half_by :=
  has_mk 0 A0 sc_half_by S_half_by fun f cdv A outer sh H hr =>
    (ss_cons (s_set (i := 2) sc_half_by.nd rfl (by first | exact .inl rfl | exact .inr rfl) (e_op o_mod (b_var (pv 1)) (b_var (pv 0))))
      (ss_one (s_ret (e_ifExp (t_cmp (o_eq hr.units) (e_b (e_op o_mod (b_var (pv 2)) (e_b e_int))) (e_b e_int) (nomark _)) (e_op o_div (b_var (pv 2)) (e_b e_int)) (e_op o_div (e_b (e_op o_add (b_var (pv 2)) (b_var (pv 0)))) (e_b e_int))))))
abbrev s_table_by : Stmt := topS 56
abbrev N_table_by : List Str := ["prime", "quad", "e", "f", "a", "b", "c", "d", "rows", "number"]
theorem sc_table_by : FnScope N_table_by ["prime", "quad"] (defScope s_table_by) := ⟨rfl, rfl, rfl, by decide +kernel, rfl, by decide +kernel, by decide +kernel⟩
def S_table_by : DS := (dSeq (dAsg (dTupF (dCons (dCallN 1 m_marks_by (dCons (dVar 0) dNil)) (dCons (dVar 1) dNil))) (gTp 2 (gsCons (gTp 2 (gsCons (gN 2) (gsCons (gN 3) gsNil))) (gsCons (gTp 4 (gsCons (gN 4) (gsCons (gN 5) (gsCons (gN 6) (gsCons (gN 7) gsNil))))) gsNil))))
    (dSeq (dSet 8 (dTupF (dCons (dOp vSub (dOp vAdd (dPeek 4) (dOp vMul (dPeek 6) (dPeek 2))) (dOp vMul (dPeek 7) (dPeek 3))) (dCons (dOp vSub (dOp vAdd (dOp vMul (dPeek 6) (dPeek 3)) (dOp vMul (dPeek 7) (dPeek 2))) (dPeek 5)) (dCons (dOp vAdd (dOp vAdd (dPeek 5) (dOp vMul (dPeek 6) (dPeek 3))) (dOp vMul (dPeek 7) (dPeek 2))) (dCons (dOp vAdd (dOp vSub (dPeek 4) (dOp vMul (dPeek 6) (dPeek 2))) (dOp vMul (dPeek 7) (dPeek 3))) dNil))))))
    (dRet (dCall cTuple (dCons (dOnlyL (dLc (dItems (dVar 8)) (gN 9) dYes (dCallN 2 m_half_by (dCons (dVar 0) (dCons (dVar 9) dNil))) [9])) dNil)))))
def m_table_by : List D → Cm D := fnD 10 S_table_by
theorem ok_table_by (A0 : DefAt K mg "table_by" s_table_by ["prime", "quad"]) (h_marks_by : Has P w K mg base 1 "marks_by" ["prime"] m_marks_by) (h_half_by : Has P w K mg base 1 "half_by" ["prime", "number"] m_half_by) (n_tuple : mg "tuple" = none) : Has P w K mg base 2 "table_by" ["prime", "quad"] m_table_by :=
  has_mk 1 A0 sc_table_by S_table_by fun f cdv A outer sh H hr =>
    (ss_cons (s_asg (e_tup (a_cons (e_callH h_marks_by (hr.mono (by decide)) (by rfl) (a_cons (e_var (pv 0)) a_nil)) (a_cons (e_var (pv 1)) a_nil))) (g_tup (n := 2) rfl (gs_cons (g_tup (n := 2) rfl (gs_cons (g_name (i := 2) sc_table_by.nd rfl (by first | exact .inl rfl | exact .inr rfl)) (gs_cons (g_name (i := 3) sc_table_by.nd rfl (by first | exact .inl rfl | exact .inr rfl)) gs_nil))) (gs_cons (g_tup (n := 4) rfl (gs_cons (g_name (i := 4) sc_table_by.nd rfl (by first | exact .inl rfl | exact .inr rfl)) (gs_cons (g_name (i := 5) sc_table_by.nd rfl (by first | exact .inl rfl | exact .inr rfl)) (gs_cons (g_name (i := 6) sc_table_by.nd rfl (by first | exact .inl rfl | exact .inr rfl)) (gs_cons (g_name (i := 7) sc_table_by.nd rfl (by first | exact .inl rfl | exact .inr rfl)) gs_nil))))) gs_nil))))
      (ss_cons (s_set (i := 8) sc_table_by.nd rfl (by first | exact .inl rfl | exact .inr rfl) (e_tup (a_cons (e_op o_sub (e_b (e_op o_add (b_var (pv 4)) (e_b (e_op o_mul (b_var (pv 6)) (b_var (pv 2)))))) (e_b (e_op o_mul (b_var (pv 7)) (b_var (pv 3))))) (a_cons (e_op o_sub (e_b (e_op o_add (e_b (e_op o_mul (b_var (pv 6)) (b_var (pv 3)))) (e_b (e_op o_mul (b_var (pv 7)) (b_var (pv 2)))))) (b_var (pv 5))) (a_cons (e_op o_add (e_b (e_op o_add (b_var (pv 5)) (e_b (e_op o_mul (b_var (pv 6)) (b_var (pv 3)))))) (e_b (e_op o_mul (b_var (pv 7)) (b_var (pv 2))))) (a_cons (e_op o_add (e_b (e_op o_sub (b_var (pv 4)) (e_b (e_op o_mul (b_var (pv 6)) (b_var (pv 2)))))) (e_b (e_op o_mul (b_var (pv 7)) (b_var (pv 3))))) a_nil))))))
      (ss_one (s_ret (e_callTy k_tuple (by rfl) n_tuple (by decide +kernel) (ab_cons (e_b (e_f (f_lc (own := [("number", 9)]) rfl sc_table_by.nd (i_seq (e_var (pv 8))) (blkOk_by (N := N_table_by) (sc := (defScope s_table_by)) (by decide +kernel)) (fun _ _ _ _ _ => (g_name (i := 9) sc_table_by.nd rfl (by first | exact .inl rfl | exact .inr rfl))) (fun _ _ _ _ _ => ts_nil) (fun _ _ _ _ _ => (e_callH h_half_by (hr.mono (by decide)) (by rfl) (a_cons (e_var (pv 0)) (a_cons (e_var (pv 9)) a_nil)))) (by decide)))) ab_nil))))))
abbrev s_table_of : Stmt := topS 57
abbrev N_table_of : List Str := ["prime", "quad"]
theorem sc_table_of : FnScope N_table_of ["prime", "quad"] (defScope s_table_of) := ⟨rfl, rfl, rfl, by decide +kernel, rfl, by decide +kernel, by decide +kernel⟩
def S_table_of : DS := (dSeq (dDrop (dCallN 1 m_need_odd (dCons (dVar 0) dNil)))
    (dSeq (dDrop (dCallN 1 m_need_quad (dCons (dVar 1) dNil)))
    (dRet (dCallN 2 m_table_by (dCons (dVar 0) (dCons (dVar 1) dNil))))))
def m_table_of : List D → Cm D := fnD 2 S_table_of
theorem ok_table_of (A0 : DefAt K mg "table_of" s_table_of ["prime", "quad"]) (h_need_odd : Has P w K mg base 4 "need_odd" ["prime"] m_need_odd) (h_need_quad : Has P w K mg base 4 "need_quad" ["quad"] m_need_quad) (h_table_by : Has P w K mg base 2 "table_by" ["prime", "quad"] m_table_by) : Has P w K mg base 5 "table_of" ["prime", "quad"] m_table_of :=
  has_mk 4 A0 sc_table_of S_table_of fun f cdv A outer sh H hr =>
    (ss_cons (s_drop (e_callH h_need_odd (hr.mono (by decide)) (by rfl) (a_cons (e_var (pv 0)) a_nil)))
      (ss_cons (s_drop (e_callH h_need_quad (hr.mono (by decide)) (by rfl) (a_cons (e_var (pv 1)) a_nil)))
      (ss_one (s_ret (e_callH h_table_by (hr.mono (by decide)) (by rfl) (a_cons (e_var (pv 0)) (a_cons (e_var (pv 1)) a_nil)))))))
abbrev s_least_line : Stmt := topS 59
abbrev N_least_line : List Str := ["prime", "column", "x", "y", "number"]
theorem sc_least_line : FnScope N_least_line ["prime", "column"] (defScope s_least_line) := ⟨rfl, rfl, rfl, by decide +kernel, rfl, by decide +kernel, by decide +kernel⟩
def S_least_line : DS := (dSeq (dAsg (dVar 1) (gTp 2 (gsCons (gN 2) (gsCons (gN 3) gsNil))))
    (dSeq (dIfS (dTru (dOp vEq (dOp vMod (dPeek 2) (dPeek 0)) (dCst (.int 0)))) (dRet (dTupF (dCons (dCst (.int 0)) (dCons (dCst (.int 1)) dNil)))) dSkip)
    (dSeq (dFor (dRng1 (dCons (dVar 0) dNil)) (gN 4) (dIfS (dTru (dOp vEq (dOp vMod (dOp vSub (dOp vMul (dPeek 2) (dPeek 4)) (dPeek 3)) (dPeek 0)) (dCst (.int 0)))) (dRet (dTupF (dCons (dCst (.int 1)) (dCons (dVar 4) dNil)))) dSkip))
    (dRet (dTupF (dCons (dCst (.int 0)) (dCons (dCst (.int 1)) dNil)))))))
def m_least_line : List D → Cm D := fnD 5 S_least_line
theorem ok_least_line (A0 : DefAt K mg "least_line" s_least_line ["prime", "column"]) (n_range : mg "range" = none) : Has P w K mg base 1 "least_line" ["prime", "column"] m_least_line :=
  has_mk 0 A0 sc_least_line S_least_line fun f cdv A outer sh H hr =>
    (ss_cons (s_asg (e_var (pv 1)) (g_tup (n := 2) rfl (gs_cons (g_name (i := 2) sc_least_line.nd rfl (by first | exact .inl rfl | exact .inr rfl)) (gs_cons (g_name (i := 3) sc_least_line.nd rfl (by first | exact .inl rfl | exact .inr rfl)) gs_nil))))
      (ss_cons (s_if (t_cmp (o_eq hr.units) (e_b (e_op o_mod (b_var (pv 2)) (b_var (pv 0)))) (e_b e_int) (nomark _)) (ss_one (s_ret (e_tup (a_cons e_int (a_cons e_int a_nil))))) ss_nil)
      (ss_cons (s_for PassesOwn.never rfl (i_rng1 (by rfl) n_range (a_cons (e_var (pv 0)) a_nil)) (g_name (i := 4) sc_least_line.nd rfl (by first | exact .inl rfl | exact .inr rfl)) (ss_one (s_if (t_cmp (o_eq hr.units) (e_b (e_op o_mod (e_b (e_op o_sub (e_b (e_op o_mul (b_var (pv 2)) (b_var (pv 4)))) (b_var (pv 3)))) (b_var (pv 0)))) (e_b e_int) (nomark _)) (ss_one (s_ret (e_tup (a_cons e_int (a_cons (e_var (pv 4)) a_nil))))) ss_nil)))
      (ss_one (s_ret (e_tup (a_cons e_int (a_cons e_int a_nil))))))))
abbrev s_is_line_of : Stmt := topS 60
abbrev N_is_line_of : List Str := ["prime", "thing", "one"]
theorem sc_is_line_of : FnScope N_is_line_of ["prime", "thing"] (defScope s_is_line_of) := ⟨rfl, rfl, rfl, by decide +kernel, rfl, by decide +kernel, by decide +kernel⟩
def S_is_line_of : DS := (dSeq (dIfS (dOrT (dNotT (dTru (dIsi "tuple" (dPeek 1)))) (dOrT (dTru (dOp vNe (dCall cLen (dCons (dPeek 1) dNil)) (dCst (.int 2)))) (dNotT (dTru (dCall cAll (dCons (dOnlyL (dLc (dItems (dVar 1)) (gN 2) dYes (dCallN 1 m_is_number (dCons (dVar 2) dNil)) [2])) dNil)))))) (dRet (dCst (.bool false))) dSkip)
    (dRet (dOrV (dOp vEq (dPeek 1) (dTupF (dCons (dCst (.int 0)) (dCons (dCst (.int 1)) dNil)))) (dAndV (dOp vEq (dOp vIx (dPeek 1) (dCst (.int 0))) (dCst (.int 1))) (dChain (vCmp pLe) (vCmp pLt) (dCst (.int 0)) (dOp vIx (dPeek 1) (dCst (.int 1))) (dPeek 0))))))
def m_is_line_of : List D → Cm D := fnD 3 S_is_line_of
theorem ok_is_line_of (A0 : DefAt K mg "is_line_of" s_is_line_of ["prime", "thing"]) (h_is_number : Has P w K mg base 1 "is_number" ["thing"] m_is_number) (n_all : mg "all" = none) (n_isinstance : mg "isinstance" = none) (n_len : mg "len" = none) (n_tuple : mg "tuple" = none) : Has P w K mg base 2 "is_line_of" ["prime", "thing"] m_is_line_of :=
  has_mk 1 A0 sc_is_line_of S_is_line_of fun f cdv A outer sh H hr =>
    (ss_cons (s_if (PW.pt (w_or (t_not (t_val (e_isi (by rfl) n_isinstance (by decide +kernel) (by rfl) n_tuple (by decide +kernel) (b_var (pv 1))))) (w_or (t_cmp (o_ne hr.units) (e_b (e_callB k_len (by rfl) n_len (by decide +kernel) (ab_cons (b_var (pv 1)) ab_nil))) (e_b e_int) (nomark _)) (w_or1 (t_not (t_val (e_callB (k_all rfl) (by rfl) n_all (by decide +kernel) (ab_cons (e_b (e_f (f_lc (own := [("one", 2)]) rfl sc_is_line_of.nd (i_seq (e_var (pv 1))) (blkOk_by (N := N_is_line_of) (sc := (defScope s_is_line_of)) (by decide +kernel)) (fun _ _ _ _ _ => (g_name (i := 2) sc_is_line_of.nd rfl (by first | exact .inl rfl | exact .inr rfl))) (fun _ _ _ _ _ => ts_nil) (fun _ _ _ _ _ => (e_callH h_is_number (hr.mono (by decide)) (by rfl) (a_cons (e_var (pv 2)) a_nil))) (by decide)))) ab_nil)))))))) (ss_one (s_ret e_bl)) ss_nil)
      (ss_one (s_ret (e_or (e_cmp (o_eq hr.units) (b_var (pv 1)) (e_b (e_tup (a_cons e_int (a_cons e_int a_nil)))) (nomark _)) (e_one (e_and (e_cmp (o_eq hr.units) (e_b (e_ix x_ix (b_var (pv 1)) (e_b e_int) (fun _ _ => rfl))) (e_b e_int) (nomark _)) (e_one (e_chain o_le o_lt (e_b e_int) (e_b (e_ix x_ix (b_var (pv 1)) (e_b e_int) (fun _ _ => rfl))) (b_var (pv 0))))))))))
abbrev s_line_by : Stmt := topS 61
abbrev N_line_by : List Str := ["prime", "quad", "a", "b", "c", "d"]
theorem sc_line_by : FnScope N_line_by ["prime", "quad"] (defScope s_line_by) := ⟨rfl, rfl, rfl, by decide +kernel, rfl, by decide +kernel, by decide +kernel⟩
def S_line_by : DS := (dSeq (dAsg (dCallN 2 m_table_by (dCons (dVar 0) (dCons (dVar 1) dNil))) (gTp 4 (gsCons (gN 2) (gsCons (gN 3) (gsCons (gN 4) (gsCons (gN 5) gsNil))))))
    (dRet (dCallN 2 m_least_line (dCons (dVar 0) (dCons (dIf (dTru (dOp vNe (dTupF (dCons (dVar 2) (dCons (dVar 4) dNil))) (dTupF (dCons (dCst (.int 0)) (dCons (dCst (.int 0)) dNil))))) (dTupF (dCons (dVar 2) (dCons (dVar 4) dNil))) (dTupF (dCons (dVar 3) (dCons (dVar 5) dNil)))) dNil)))))
def m_line_by : List D → Cm D := fnD 6 S_line_by
theorem ok_line_by (A0 : DefAt K mg "line_by" s_line_by ["prime", "quad"]) (h_table_by : Has P w K mg base 2 "table_by" ["prime", "quad"] m_table_by) (h_least_line : Has P w K mg base 1 "least_line" ["prime", "column"] m_least_line) : Has P w K mg base 3 "line_by" ["prime", "quad"] m_line_by :=
  has_mk 2 A0 sc_line_by S_line_by fun f cdv A outer sh H hr =>
    (ss_cons (s_asg (e_callH h_table_by (hr.mono (by decide)) (by rfl) (a_cons (e_var (pv 0)) (a_cons (e_var (pv 1)) a_nil))) (g_tup (n := 4) rfl (gs_cons (g_name (i := 2) sc_line_by.nd rfl (by first | exact .inl rfl | exact .inr rfl)) (gs_cons (g_name (i := 3) sc_line_by.nd rfl (by first | exact .inl rfl | exact .inr rfl)) (gs_cons (g_name (i := 4) sc_line_by.nd rfl (by first | exact .inl rfl | exact .inr rfl)) (gs_cons (g_name (i := 5) sc_line_by.nd rfl (by first | exact .inl rfl | exact .inr rfl)) gs_nil))))))
      (ss_one (s_ret (e_callH h_least_line (hr.mono (by decide)) (by rfl) (a_cons (e_var (pv 0)) (a_cons (e_ifExp (t_cmp (o_ne hr.units) (e_b (e_tup (a_cons (e_var (pv 2)) (a_cons (e_var (pv 4)) a_nil)))) (e_b (e_tup (a_cons e_int (a_cons e_int a_nil)))) (nomark _)) (e_tup (a_cons (e_var (pv 2)) (a_cons (e_var (pv 4)) a_nil))) (e_tup (a_cons (e_var (pv 3)) (a_cons (e_var (pv 5)) a_nil)))) a_nil))))))
abbrev s_led_by : Stmt := topS 62
abbrev N_led_by : List Str := ["prime", "quad", "line", "a", "b", "c", "d", "x", "y"]
theorem sc_led_by : FnScope N_led_by ["prime", "quad", "line"] (defScope s_led_by) := ⟨rfl, rfl, rfl, by decide +kernel, rfl, by decide +kernel, by decide +kernel⟩
def S_led_by : DS := (dSeq (dAsg (dCallN 2 m_table_by (dCons (dVar 0) (dCons (dVar 1) dNil))) (gTp 4 (gsCons (gN 3) (gsCons (gN 4) (gsCons (gN 5) (gsCons (gN 6) gsNil))))))
    (dSeq (dAsg (dVar 2) (gTp 2 (gsCons (gN 7) (gsCons (gN 8) gsNil))))
    (dRet (dCallN 2 m_least_line (dCons (dVar 0) (dCons (dTupF (dCons (dOp vAdd (dOp vMul (dPeek 3) (dPeek 7)) (dOp vMul (dPeek 4) (dPeek 8))) (dCons (dOp vAdd (dOp vMul (dPeek 5) (dPeek 7)) (dOp vMul (dPeek 6) (dPeek 8))) dNil))) dNil))))))
def m_led_by : List D → Cm D := fnD 9 S_led_by
theorem ok_led_by (A0 : DefAt K mg "led_by" s_led_by ["prime", "quad", "line"]) (h_table_by : Has P w K mg base 2 "table_by" ["prime", "quad"] m_table_by) (h_least_line : Has P w K mg base 1 "least_line" ["prime", "column"] m_least_line) : Has P w K mg base 3 "led_by" ["prime", "quad", "line"] m_led_by :=
  has_mk 2 A0 sc_led_by S_led_by fun f cdv A outer sh H hr =>
    (ss_cons (s_asg (e_callH h_table_by (hr.mono (by decide)) (by rfl) (a_cons (e_var (pv 0)) (a_cons (e_var (pv 1)) a_nil))) (g_tup (n := 4) rfl (gs_cons (g_name (i := 3) sc_led_by.nd rfl (by first | exact .inl rfl | exact .inr rfl)) (gs_cons (g_name (i := 4) sc_led_by.nd rfl (by first | exact .inl rfl | exact .inr rfl)) (gs_cons (g_name (i := 5) sc_led_by.nd rfl (by first | exact .inl rfl | exact .inr rfl)) (gs_cons (g_name (i := 6) sc_led_by.nd rfl (by first | exact .inl rfl | exact .inr rfl)) gs_nil))))))
      (ss_cons (s_asg (e_var (pv 2)) (g_tup (n := 2) rfl (gs_cons (g_name (i := 7) sc_led_by.nd rfl (by first | exact .inl rfl | exact .inr rfl)) (gs_cons (g_name (i := 8) sc_led_by.nd rfl (by first | exact .inl rfl | exact .inr rfl)) gs_nil))))
      (ss_one (s_ret (e_callH h_least_line (hr.mono (by decide)) (by rfl) (a_cons (e_var (pv 0)) (a_cons (e_tup (a_cons (e_op o_add (e_b (e_op o_mul (b_var (pv 3)) (b_var (pv 7)))) (e_b (e_op o_mul (b_var (pv 4)) (b_var (pv 8))))) (a_cons (e_op o_add (e_b (e_op o_mul (b_var (pv 5)) (b_var (pv 7)))) (e_b (e_op o_mul (b_var (pv 6)) (b_var (pv 8))))) a_nil))) a_nil)))))))
abbrev s_need_line : Stmt := topS 63
abbrev N_need_line : List Str := ["prime", "line"]
theorem sc_need_line : FnScope N_need_line ["prime", "line"] (defScope s_need_line) := ⟨rfl, rfl, rfl, by decide +kernel, rfl, by decide +kernel, by decide +kernel⟩
def S_need_line : DS := (dIfS (dNotT (dTru (dCallN 2 m_is_line_of (dCons (dVar 0) (dCons (dVar 1) dNil))))) dNever dSkip)
def m_need_line : List D → Cm D := fnD 2 S_need_line
theorem ok_need_line (A0 : DefAt K mg "need_line" s_need_line ["prime", "line"]) (h_is_line_of : Has P w K mg base 2 "is_line_of" ["prime", "thing"] m_is_line_of) : Has P w K mg base 3 "need_line" ["prime", "line"] m_need_line :=
  has_mk 2 A0 sc_need_line S_need_line fun f cdv A outer sh H hr =>
    (ss_one (s_if (t_not (t_val (e_callH h_is_line_of (hr.mono (by decide)) (by rfl) (a_cons (e_var (pv 0)) (a_cons (e_var (pv 1)) a_nil))))) (ss_one s_never) ss_nil))
abbrev s_has_line : Stmt := topS 64
abbrev N_has_line : List Str := ["prime", "quad"]
theorem sc_has_line : FnScope N_has_line ["prime", "quad"] (defScope s_has_line) := ⟨rfl, rfl, rfl, by decide +kernel, rfl, by decide +kernel, by decide +kernel⟩
def S_has_line : DS := (dRet (dAndV (dOp vEq (dOp vMod (dCallN 1 m_size_by (dCons (dVar 1) dNil)) (dPeek 0)) (dCst (.int 0))) (dNotV (dCallN 2 m_is_divided_by (dCons (dVar 1) (dCons (dVar 0) dNil))))))
def m_has_line : List D → Cm D := fnD 2 S_has_line
theorem ok_has_line (A0 : DefAt K mg "has_line" s_has_line ["prime", "quad"]) (h_size_by : Has P w K mg base 1 "size_by" ["quad"] m_size_by) (h_is_divided_by : Has P w K mg base 3 "is_divided_by" ["quad", "prime"] m_is_divided_by) : Has P w K mg base 4 "has_line" ["prime", "quad"] m_has_line :=
  has_mk 3 A0 sc_has_line S_has_line fun f cdv A outer sh H hr =>
    (ss_one (s_ret (e_and (e_cmp (o_eq hr.units) (e_b (e_op o_mod (e_b (e_callH h_size_by (hr.mono (by decide)) (by rfl) (a_cons (e_var (pv 1)) a_nil))) (b_var (pv 0)))) (e_b e_int) (nomark _)) (e_one (e_not (e_callH h_is_divided_by (hr.mono (by decide)) (by rfl) (a_cons (e_var (pv 1)) (a_cons (e_var (pv 0)) a_nil))))))))
abbrev s_line_of : Stmt := topS 65
abbrev N_line_of : List Str := ["prime", "quad"]
theorem sc_line_of : FnScope N_line_of ["prime", "quad"] (defScope s_line_of) := ⟨rfl, rfl, rfl, by decide +kernel, rfl, by decide +kernel, by decide +kernel⟩
def S_line_of : DS := (dSeq (dDrop (dCallN 1 m_need_odd (dCons (dVar 0) dNil)))
    (dSeq (dDrop (dCallN 1 m_need_quad (dCons (dVar 1) dNil)))
    (dSeq (dIfS (dNotT (dTru (dCallN 2 m_has_line (dCons (dVar 0) (dCons (dVar 1) dNil))))) dNever dSkip)
    (dRet (dCallN 2 m_line_by (dCons (dVar 0) (dCons (dVar 1) dNil)))))))
def m_line_of : List D → Cm D := fnD 2 S_line_of
theorem ok_line_of (A0 : DefAt K mg "line_of" s_line_of ["prime", "quad"]) (h_need_odd : Has P w K mg base 4 "need_odd" ["prime"] m_need_odd) (h_need_quad : Has P w K mg base 4 "need_quad" ["quad"] m_need_quad) (h_has_line : Has P w K mg base 4 "has_line" ["prime", "quad"] m_has_line) (h_line_by : Has P w K mg base 3 "line_by" ["prime", "quad"] m_line_by) : Has P w K mg base 5 "line_of" ["prime", "quad"] m_line_of :=
  has_mk 4 A0 sc_line_of S_line_of fun f cdv A outer sh H hr =>
    (ss_cons (s_drop (e_callH h_need_odd (hr.mono (by decide)) (by rfl) (a_cons (e_var (pv 0)) a_nil)))
      (ss_cons (s_drop (e_callH h_need_quad (hr.mono (by decide)) (by rfl) (a_cons (e_var (pv 1)) a_nil)))
      (ss_cons (s_if (t_not (t_val (e_callH h_has_line (hr.mono (by decide)) (by rfl) (a_cons (e_var (pv 0)) (a_cons (e_var (pv 1)) a_nil))))) (ss_one s_never) ss_nil)
      (ss_one (s_ret (e_callH h_line_by (hr.mono (by decide)) (by rfl) (a_cons (e_var (pv 0)) (a_cons (e_var (pv 1)) a_nil))))))))
abbrev s_led_line : Stmt := topS 66
abbrev N_led_line : List Str := ["prime", "quad", "line"]
theorem sc_led_line : FnScope N_led_line ["prime", "quad", "line"] (defScope s_led_line) := ⟨rfl, rfl, rfl, by decide +kernel, rfl, by decide +kernel, by decide +kernel⟩
def S_led_line : DS := (dSeq (dDrop (dCallN 1 m_need_odd (dCons (dVar 0) dNil)))
    (dSeq (dDrop (dCallN 1 m_need_quad (dCons (dVar 1) dNil)))
    (dSeq (dIfS (dTru (dOp vEq (dOp vMod (dCallN 1 m_size_by (dCons (dVar 1) dNil)) (dPeek 0)) (dCst (.int 0)))) dNever dSkip)
    (dSeq (dDrop (dCallN 2 m_need_line (dCons (dVar 0) (dCons (dVar 2) dNil))))
    (dRet (dCallN 3 m_led_by (dCons (dVar 0) (dCons (dVar 1) (dCons (dVar 2) dNil)))))))))
def m_led_line : List D → Cm D := fnD 3 S_led_line
theorem ok_led_line (A0 : DefAt K mg "led_line" s_led_line ["prime", "quad", "line"]) (h_need_odd : Has P w K mg base 4 "need_odd" ["prime"] m_need_odd) (h_need_quad : Has P w K mg base 4 "need_quad" ["quad"] m_need_quad) (h_size_by : Has P w K mg base 1 "size_by" ["quad"] m_size_by) (h_need_line : Has P w K mg base 3 "need_line" ["prime", "line"] m_need_line) (h_led_by : Has P w K mg base 3 "led_by" ["prime", "quad", "line"] m_led_by) : Has P w K mg base 5 "led_line" ["prime", "quad", "line"] m_led_line :=
  has_mk 4 A0 sc_led_line S_led_line fun f cdv A outer sh H hr =>
    (ss_cons (s_drop (e_callH h_need_odd (hr.mono (by decide)) (by rfl) (a_cons (e_var (pv 0)) a_nil)))
      (ss_cons (s_drop (e_callH h_need_quad (hr.mono (by decide)) (by rfl) (a_cons (e_var (pv 1)) a_nil)))
      (ss_cons (s_if (t_cmp (o_eq hr.units) (e_b (e_op o_mod (e_b (e_callH h_size_by (hr.mono (by decide)) (by rfl) (a_cons (e_var (pv 1)) a_nil))) (b_var (pv 0)))) (e_b e_int) (nomark _)) (ss_one s_never) ss_nil)
      (ss_cons (s_drop (e_callH h_need_line (hr.mono (by decide)) (by rfl) (a_cons (e_var (pv 0)) (a_cons (e_var (pv 2)) a_nil))))
      (ss_one (s_ret (e_callH h_led_by (hr.mono (by decide)) (by rfl) (a_cons (e_var (pv 0)) (a_cons (e_var (pv 1)) (a_cons (e_var (pv 2)) a_nil))))))))))
abbrev s_Lpick : Stmt := topS 72
abbrev N_Lpick : List Str := ["draw", "some"]
theorem sc_Lpick : FnScope N_Lpick ["draw", "some"] (defScope s_Lpick) := ⟨rfl, rfl, rfl, by decide +kernel, rfl, by decide +kernel, by decide +kernel⟩
def S_Lpick : DS := (dRet (dOp vIx (dPeek 1) (dCallN 2 m_Ltake (dCons (dVar 0) (dCons (dCall cLen (dCons (dPeek 1) dNil)) dNil)))))
def m_Lpick : List D → Cm D := fnD 2 S_Lpick
theorem ok_Lpick (A0 : DefAt K mg "_law_pick" s_Lpick ["draw", "some"]) (h_Ltake : Has P w K mg base 2 "_law_take" ["draw", "amount"] m_Ltake) (n_len : mg "len" = none) : Has P w K mg base 3 "_law_pick" ["draw", "some"] m_Lpick :=
  has_mk 2 A0 sc_Lpick S_Lpick fun f cdv A outer sh H hr =>
    (ss_one (s_ret (e_ix x_ix (b_var (pv 1)) (e_b (e_callH h_Ltake (hr.mono (by decide)) (by rfl) (a_cons (e_var (pv 0)) (a_cons (e_callB k_len (by rfl) n_len (by decide +kernel) (ab_cons (b_var (pv 1)) ab_nil)) a_nil)))) (fun _ _ => rfl))))
abbrev s_Lback : Stmt := topS 73
abbrev N_Lback : List Str := ["quad"]
theorem sc_Lback : FnScope N_Lback ["quad"] (defScope s_Lback) := ⟨rfl, rfl, rfl, by decide +kernel, rfl, by decide +kernel, by decide +kernel⟩
def S_Lback : DS := (dRet (dTupF (dCons (dOp vIx (dPeek 0) (dCst (.int 0))) (dCons (dOp vSub (dCst (.int 0)) (dOp vIx (dPeek 0) (dCst (.int 1)))) (dCons (dOp vSub (dCst (.int 0)) (dOp vIx (dPeek 0) (dCst (.int 2)))) (dCons (dOp vSub (dCst (.int 0)) (dOp vIx (dPeek 0) (dCst (.int 3)))) dNil))))))
def m_Lback : List D → Cm D := fnD 1 S_Lback
theorem ok_Lback (A0 : DefAt K mg "_law_back" s_Lback ["quad"]) : Has P w K mg base 1 "_law_back" ["quad"] m_Lback :=
  has_mk 0 A0 sc_Lback S_Lback fun f cdv A outer sh H hr =>
    (ss_one (s_ret (e_tup (a_cons (e_ix x_ix (b_var (pv 0)) (e_b e_int) (fun _ _ => rfl)) (a_cons (e_op o_sub (e_b e_int) (e_b (e_ix x_ix (b_var (pv 0)) (e_b e_int) (fun _ _ => rfl)))) (a_cons (e_op o_sub (e_b e_int) (e_b (e_ix x_ix (b_var (pv 0)) (e_b e_int) (fun _ _ => rfl)))) (a_cons (e_op o_sub (e_b e_int) (e_b (e_ix x_ix (b_var (pv 0)) (e_b e_int) (fun _ _ => rfl)))) a_nil)))))))
abbrev s_Lsize : Stmt := topS 74
abbrev N_Lsize : List Str := ["quad", "number"]
theorem sc_Lsize : FnScope N_Lsize ["quad"] (defScope s_Lsize) := ⟨rfl, rfl, rfl, by decide +kernel, rfl, by decide +kernel, by decide +kernel⟩
def S_Lsize : DS := (dRet (dOp vDiv (dCall cSum (dCons (dOnlyL (dLc (dItems (dVar 0)) (gN 1) dYes (dOp vMul (dPeek 1) (dPeek 1)) [1])) dNil)) (dCst (.int 4))))
def m_Lsize : List D → Cm D := fnD 2 S_Lsize
theorem ok_Lsize (A0 : DefAt K mg "_law_size" s_Lsize ["quad"]) (n_sum : mg "sum" = none) : Has P w K mg base 1 "_law_size" ["quad"] m_Lsize :=
  has_mk 0 A0 sc_Lsize S_Lsize fun f cdv A outer sh H hr =>
    (ss_one (s_ret (e_op o_div (e_b (e_callB (k_sum rfl) (by rfl) n_sum (by decide +kernel) (ab_cons (e_b (e_f (f_lc (own := [("number", 1)]) rfl sc_Lsize.nd (i_seq (e_var (pv 0))) (blkOk_by (N := N_Lsize) (sc := (defScope s_Lsize)) (by decide +kernel)) (fun _ _ _ _ _ => (g_name (i := 1) sc_Lsize.nd rfl (by first | exact .inl rfl | exact .inr rfl))) (fun _ _ _ _ _ => ts_nil) (fun _ _ _ _ _ => (e_op o_mul (b_var (pv 1)) (b_var (pv 1)))) (by decide)))) ab_nil))) (e_b e_int))))
abbrev s_Lrows : Stmt := topS 76
abbrev N_Lrows : List Str := ["numbers", "found", "lap", "number", "row"]
theorem sc_Lrows : FnScope N_Lrows ["numbers"] (defScope s_Lrows) := ⟨rfl, rfl, rfl, by decide +kernel, rfl, by decide +kernel, by decide +kernel⟩
def S_Lrows : DS := (dSeq (dSet 1 (dOnlyL (dLstF (dCons (dTupF dNil) dNil))))
    (dSeq (dFor (dRng1 (dCons (dCst (.int 4)) dNil)) (gN 2) (dSet 1 (dCall cSumL (dCons (dOnlyL (dLc (dItems (dVar 1)) (gN 4) dYes (dOnlyL (dLc (dItems (dVar 0)) (gN 3) dYes (dOp vAdd (dPeek 4) (dTupF (dCons (dVar 3) dNil))) [3])) [4])) (dCons (dOnlyL (dLstF dNil)) dNil)))))
    (dRet (dVar 1))))
def m_Lrows : List D → Cm D := fnD 5 S_Lrows
theorem ok_Lrows (A0 : DefAt K mg "_law_rows" s_Lrows ["numbers"]) (n_range : mg "range" = none) (n_sum : mg "sum" = none) : Has P w K mg base 1 "_law_rows" ["numbers"] m_Lrows :=
  has_mk 0 A0 sc_Lrows S_Lrows fun f cdv A outer sh H hr =>
    (ss_cons (s_set (i := 1) sc_Lrows.nd rfl (by first | exact .inl rfl | exact .inr rfl) (e_f (f_lst (a_cons (e_tup a_nil) a_nil))))
      (ss_cons (s_for PassesOwn.never rfl (i_rng1 (by rfl) n_range (a_cons e_int a_nil)) (g_name (i := 2) sc_Lrows.nd rfl (by first | exact .inl rfl | exact .inr rfl)) (ss_one (s_set (i := 1) sc_Lrows.nd rfl (by first | exact .inl rfl | exact .inr rfl) (e_callB (k_sumL rfl) (by rfl) n_sum (by decide +kernel) (ab_cons (e_b (e_f (f_lc (own := [("row", 4)]) rfl sc_Lrows.nd (i_seq (e_var (pv 1))) (blkOk_by (N := N_Lrows) (sc := (defScope s_Lrows)) (by decide +kernel)) (fun _ _ _ _ _ => (g_name (i := 4) sc_Lrows.nd rfl (by first | exact .inl rfl | exact .inr rfl))) (fun _ _ _ _ _ => ts_nil) (fun _ _ _ _ _ => (e_f (f_lc (own := [("number", 3)]) rfl sc_Lrows.nd (i_seq (e_var (pv 0))) (blkOk_by (N := N_Lrows) (sc := (relS _ (defScope s_Lrows))) (by decide +kernel)) (fun _ _ _ _ _ => (g_name (i := 3) sc_Lrows.nd rfl (by first | exact .inl rfl | exact .inr rfl))) (fun _ _ _ _ _ => ts_nil) (fun _ _ _ _ _ => (e_op o_add (b_var (pv 4)) (e_b (e_tup (a_cons (e_var (pv 3)) a_nil))))) (by decide)))) (by decide)))) (ab_cons (e_b (e_f (f_lst a_nil))) ab_nil))))))
      (ss_one (s_ret (e_var (pv 1))))))
abbrev s_Lcommon : Stmt := topS 77
abbrev N_Lcommon : List Str := ["one", "other"]
theorem sc_Lcommon : FnScope N_Lcommon ["one", "other"] (defScope s_Lcommon) := ⟨rfl, rfl, rfl, by decide +kernel, rfl, by decide +kernel, by decide +kernel⟩
def S_Lcommon : DS := (dSeq (dPar 0 1 (dCall cAbs (dCons (dPeek 0) dNil)) (dCall cAbs (dCons (dPeek 1) dNil)))
    (dSeq (whileGo (dTru (dOp vNe (dPeek 1) (dCst (.int 0)))) (dPar 0 1 (dVar 1) (dOp vMod (dCall cInt (dCons (dPeek 0) dNil)) (dPeek 1))) FUEL)
    (dRet (dVar 0))))
def m_Lcommon : List D → Cm D := fnD 2 S_Lcommon
theorem ok_Lcommon (A0 : DefAt K mg "_law_common" s_Lcommon ["one", "other"]) (n_abs : mg "abs" = none) (n_int : mg "int" = none) : Has P w K mg base 1 "_law_common" ["one", "other"] m_Lcommon :=
  has_mk 0 A0 sc_Lcommon S_Lcommon fun f cdv A outer sh H hr =>
    (ss_cons (s_par (i := 0) (j := 1) rfl sc_Lcommon.nd rfl rfl (by decide) rfl rfl (e_callB k_abs (by rfl) n_abs (by decide +kernel) (ab_cons (b_var (pv 0)) ab_nil)) (e_callB k_abs (by rfl) n_abs (by decide +kernel) (ab_cons (b_var (pv 1)) ab_nil)) (by rfl))
      (ss_cons (s_while FUEL PassesOwn.never (t_cmp (o_ne hr.units) (b_var (pv 1)) (e_b e_int) (nomark _)) (ss_one (s_par (i := 0) (j := 1) rfl sc_Lcommon.nd rfl rfl (by decide) rfl rfl (e_var (pv 1)) (e_op o_mod (e_b (e_callTy k_int (by rfl) n_int (by decide +kernel) (ab_cons (b_var (pv 0)) ab_nil))) (b_var (pv 1))) (by rfl))))
      (ss_one (s_ret (e_var (pv 0))))))
abbrev s_Lcontent : Stmt := topS 78
abbrev N_Lcontent : List Str := ["quad", "shared", "least", "number"]
theorem sc_Lcontent : FnScope N_Lcontent ["quad"] (defScope s_Lcontent) := ⟨rfl, rfl, rfl, by decide +kernel, rfl, by decide +kernel, by decide +kernel⟩
def S_Lcontent : DS := (dSeq (dSet 1 (dCallN 2 m_Lcommon (dCons (dCallN 2 m_Lcommon (dCons (dOp vIx (dPeek 0) (dCst (.int 0))) (dCons (dOp vIx (dPeek 0) (dCst (.int 1))) dNil))) (dCons (dCallN 2 m_Lcommon (dCons (dOp vIx (dPeek 0) (dCst (.int 2))) (dCons (dOp vIx (dPeek 0) (dCst (.int 3))) dNil))) dNil))))
    (dSeq (dSet 2 (dCall cTuple (dCons (dOnlyL (dLc (dItems (dVar 0)) (gN 3) dYes (dOp vDiv (dPeek 3) (dPeek 1)) [3])) dNil)))
    (dSeq (dIfS (dTru (dOp vEq (dLenSet (dOnlyL (dLc (dItems (dVar 2)) (gN 3) dYes (dOp vMod (dCall cInt (dCons (dPeek 3) dNil)) (dCst (.int 2))) [3]))) (dCst (.int 1)))) (dRet (dTupF (dCons (dVar 1) (dCons (dVar 2) dNil)))) dSkip)
    (dRet (dTupF (dCons (dOp vDiv (dPeek 1) (dCst (.int 2))) (dCons (dCall cTuple (dCons (dOnlyL (dLc (dItems (dVar 2)) (gN 3) dYes (dOp vMul (dCst (.int 2)) (dPeek 3)) [3])) dNil)) dNil)))))))
def m_Lcontent : List D → Cm D := fnD 4 S_Lcontent
theorem ok_Lcontent (A0 : DefAt K mg "_law_content" s_Lcontent ["quad"]) (h_Lcommon : Has P w K mg base 1 "_law_common" ["one", "other"] m_Lcommon) (n_int : mg "int" = none) (n_len : mg "len" = none) (n_set : mg "set" = none) (n_tuple : mg "tuple" = none) : Has P w K mg base 2 "_law_content" ["quad"] m_Lcontent :=
  has_mk 1 A0 sc_Lcontent S_Lcontent fun f cdv A outer sh H hr =>
    (ss_cons (s_set (i := 1) sc_Lcontent.nd rfl (by first | exact .inl rfl | exact .inr rfl) (e_callH h_Lcommon (hr.mono (by decide)) (by rfl) (a_cons (e_callH h_Lcommon (hr.mono (by decide)) (by rfl) (a_cons (e_ix x_ix (b_var (pv 0)) (e_b e_int) (fun _ _ => rfl)) (a_cons (e_ix x_ix (b_var (pv 0)) (e_b e_int) (fun _ _ => rfl)) a_nil))) (a_cons (e_callH h_Lcommon (hr.mono (by decide)) (by rfl) (a_cons (e_ix x_ix (b_var (pv 0)) (e_b e_int) (fun _ _ => rfl)) (a_cons (e_ix x_ix (b_var (pv 0)) (e_b e_int) (fun _ _ => rfl)) a_nil))) a_nil))))
      (ss_cons (s_set (i := 2) sc_Lcontent.nd rfl (by first | exact .inl rfl | exact .inr rfl) (e_callTy k_tuple (by rfl) n_tuple (by decide +kernel) (ab_cons (e_b (e_f (f_lc (own := [("number", 3)]) rfl sc_Lcontent.nd (i_seq (e_var (pv 0))) (blkOk_by (N := N_Lcontent) (sc := (defScope s_Lcontent)) (by decide +kernel)) (fun _ _ _ _ _ => (g_name (i := 3) sc_Lcontent.nd rfl (by first | exact .inl rfl | exact .inr rfl))) (fun _ _ _ _ _ => ts_nil) (fun _ _ _ _ _ => (e_op o_div (b_var (pv 3)) (b_var (pv 1)))) (by decide)))) ab_nil)))
      (ss_cons (s_if (t_cmp (o_eq hr.units) (e_b (e_lenSet rfl (by rfl) n_len (by rfl) n_set (e_f (f_lc (own := [("number", 3)]) rfl sc_Lcontent.nd (i_seq (e_var (pv 2))) (blkOk_by (N := N_Lcontent) (sc := (defScope s_Lcontent)) (by decide +kernel)) (fun _ _ _ _ _ => (g_name (i := 3) sc_Lcontent.nd rfl (by first | exact .inl rfl | exact .inr rfl))) (fun _ _ _ _ _ => ts_nil) (fun _ _ _ _ _ => (e_op o_mod (e_b (e_callTy k_int (by rfl) n_int (by decide +kernel) (ab_cons (b_var (pv 3)) ab_nil))) (e_b e_int))) (by decide))))) (e_b e_int) (nomark _)) (ss_one (s_ret (e_tup (a_cons (e_var (pv 1)) (a_cons (e_var (pv 2)) a_nil))))) ss_nil)
      (ss_one (s_ret (e_tup (a_cons (e_op o_div (b_var (pv 1)) (e_b e_int)) (a_cons (e_callTy k_tuple (by rfl) n_tuple (by decide +kernel) (ab_cons (e_b (e_f (f_lc (own := [("number", 3)]) rfl sc_Lcontent.nd (i_seq (e_var (pv 2))) (blkOk_by (N := N_Lcontent) (sc := (defScope s_Lcontent)) (by decide +kernel)) (fun _ _ _ _ _ => (g_name (i := 3) sc_Lcontent.nd rfl (by first | exact .inl rfl | exact .inr rfl))) (fun _ _ _ _ _ => ts_nil) (fun _ _ _ _ _ => (e_op o_mul (e_b e_int) (b_var (pv 3)))) (by decide)))) ab_nil)) a_nil))))))))
abbrev s_Lquad : Stmt := topS 79
abbrev N_Lquad : List Str := ["draw", "kind", "lap"]
theorem sc_Lquad : FnScope N_Lquad ["draw"] (defScope s_Lquad) := ⟨rfl, rfl, rfl, by decide +kernel, rfl, by decide +kernel, by decide +kernel⟩
def S_Lquad : DS := (dSeq (dSet 1 (dCallN 2 m_Ltake (dCons (dVar 0) (dCons (dCst (.int 2)) dNil))))
    (dRet (dCall cTuple (dCons (dOnlyL (dLc (dRng1 (dCons (dCst (.int 4)) dNil)) (gN 2) dYes (dOp vAdd (dOp vMul (dCst (.int 2)) (dOp vSub (dCallN 2 m_Ltake (dCons (dVar 0) (dCons (dCst (.int 9)) dNil))) (dCst (.int 4)))) (dPeek 1)) [2])) dNil))))
def m_Lquad : List D → Cm D := fnD 3 S_Lquad
theorem ok_Lquad (A0 : DefAt K mg "_law_quad" s_Lquad ["draw"]) (h_Ltake : Has P w K mg base 2 "_law_take" ["draw", "amount"] m_Ltake) (n_range : mg "range" = none) (n_tuple : mg "tuple" = none) : Has P w K mg base 3 "_law_quad" ["draw"] m_Lquad :=
  has_mk 2 A0 sc_Lquad S_Lquad fun f cdv A outer sh H hr =>
    (ss_cons (s_set (i := 1) sc_Lquad.nd rfl (by first | exact .inl rfl | exact .inr rfl) (e_callH h_Ltake (hr.mono (by decide)) (by rfl) (a_cons (e_var (pv 0)) (a_cons e_int a_nil))))
      (ss_one (s_ret (e_callTy k_tuple (by rfl) n_tuple (by decide +kernel) (ab_cons (e_b (e_f (f_lc (own := [("lap", 2)]) rfl sc_Lquad.nd (i_rng1 (by rfl) n_range (a_cons e_int a_nil)) (blkOk_by (N := N_Lquad) (sc := (defScope s_Lquad)) (by decide +kernel)) (fun _ _ _ _ _ => (g_name (i := 2) sc_Lquad.nd rfl (by first | exact .inl rfl | exact .inr rfl))) (fun _ _ _ _ _ => ts_nil) (fun _ _ _ _ _ => (e_op o_add (e_b (e_op o_mul (e_b e_int) (e_b (e_op o_sub (e_b (e_callH h_Ltake (hr.mono (by decide)) (by rfl) (a_cons (e_var (pv 0)) (a_cons e_int a_nil)))) (e_b e_int))))) (b_var (pv 1)))) (by decide)))) ab_nil)))))
abbrev s_Lsome_quad : Stmt := topS 80
abbrev N_Lsome_quad : List Str := ["draw", "found"]
theorem sc_Lsome_quad : FnScope N_Lsome_quad ["draw"] (defScope s_Lsome_quad) := ⟨rfl, rfl, rfl, by decide +kernel, rfl, by decide +kernel, by decide +kernel⟩
def S_Lsome_quad : DS := (dSeq (dSet 1 (dCallN 1 m_Lquad (dCons (dVar 0) dNil)))
    (dRet (dIf (dTru (dOp vNe (dPeek 1) (dTupF (dCons (dCst (.int 0)) (dCons (dCst (.int 0)) (dCons (dCst (.int 0)) (dCons (dCst (.int 0)) dNil))))))) (dVar 1) (dTupF (dCons (dCst (.int 2)) (dCons (dCst (.int 2)) (dCons (dCst (.int 0)) (dCons (dCst (.int 0)) dNil))))))))
def m_Lsome_quad : List D → Cm D := fnD 2 S_Lsome_quad
theorem ok_Lsome_quad (A0 : DefAt K mg "_law_some_quad" s_Lsome_quad ["draw"]) (h_Lquad : Has P w K mg base 3 "_law_quad" ["draw"] m_Lquad) : Has P w K mg base 4 "_law_some_quad" ["draw"] m_Lsome_quad :=
  has_mk 3 A0 sc_Lsome_quad S_Lsome_quad fun f cdv A outer sh H hr =>
    (ss_cons (s_set (i := 1) sc_Lsome_quad.nd rfl (by first | exact .inl rfl | exact .inr rfl) (e_callH h_Lquad (hr.mono (by decide)) (by rfl) (a_cons (e_var (pv 0)) a_nil)))
      (ss_one (s_ret (e_ifExp (t_cmp (o_ne hr.units) (b_var (pv 1)) (e_b (e_tup (a_cons e_int (a_cons e_int (a_cons e_int (a_cons e_int a_nil)))))) (nomark _)) (e_var (pv 1)) (e_tup (a_cons e_int (a_cons e_int (a_cons e_int (a_cons e_int a_nil)))))))))
abbrev s_Ltree_prime : Stmt := topS 82
abbrev N_Ltree_prime : List Str := ["draw"]
theorem sc_Ltree_prime : FnScope N_Ltree_prime ["draw"] (defScope s_Ltree_prime) := ⟨rfl, rfl, rfl, by decide +kernel, rfl, by decide +kernel, by decide +kernel⟩
def S_Ltree_prime : DS := (dRet (dCallN 2 m_Lpick (dCons (dVar 0) (dCons (dOnlyL (dLstF (dCons (dCst (.int 3)) (dCons (dCst (.int 3)) (dCons (dCst (.int 3)) (dCons (dCst (.int 5)) (dCons (dCst (.int 5)) (dCons (dCst (.int 7)) (dCons (dCst (.int 11)) dNil))))))))) dNil))))
def m_Ltree_prime : List D → Cm D := fnD 1 S_Ltree_prime
theorem ok_Ltree_prime (A0 : DefAt K mg "_law_tree_prime" s_Ltree_prime ["draw"]) (h_Lpick : Has P w K mg base 3 "_law_pick" ["draw", "some"] m_Lpick) : Has P w K mg base 4 "_law_tree_prime" ["draw"] m_Ltree_prime :=
  has_mk 3 A0 sc_Ltree_prime S_Ltree_prime fun f cdv A outer sh H hr =>
    (ss_one (s_ret (e_callH h_Lpick (hr.mono (by decide)) (by rfl) (a_cons (e_var (pv 0)) (a_cons (e_f (f_lst (a_cons e_int (a_cons e_int (a_cons e_int (a_cons e_int (a_cons e_int (a_cons e_int (a_cons e_int a_nil))))))))) a_nil)))))
abbrev s_Lmarks : Stmt := topS 83
abbrev N_Lmarks : List Str := ["prime", "goals", "number", "rest", "e"]
theorem sc_Lmarks : FnScope N_Lmarks ["prime"] (defScope s_Lmarks) := ⟨rfl, rfl, rfl, by decide +kernel, rfl, by decide +kernel, by decide +kernel⟩
def S_Lmarks : DS := (dSeq (dSetF 1 dNewD)
    (dSeq (dFor (dRng1 (dCons (dVar 0) dNil)) (gN 2) (dSeq (dSet 3 (dOp vMod (dCall cInt (dCons (dOp vMul (dPeek 2) (dPeek 2)) dNil)) (dPeek 0)))
    (dDPut 1 (dVar 3) (dCall cMin2 (dCons (dPeek 2) (dCons (dGet2 (dPeek 1) (dPeek 3) (dVar 0)) dNil))))))
    (dRet (dCall cMinL (dCons (dOnlyL (dLc (dRng1 (dCons (dVar 0) dNil)) (gN 4) (dTru (dOp vDIn (dOp vMod (dCall cInt (dCons (dOp vSub (dOp vSub (dOp vMul (dPeek 0) (dPeek 0)) (dCst (.int 1))) (dOp vMul (dPeek 4) (dPeek 4))) dNil)) (dPeek 0)) (dPeek 1))) (dTupF (dCons (dVar 4) (dCons (dOp vDGet (dPeek 1) (dOp vMod (dCall cInt (dCons (dOp vSub (dOp vSub (dOp vMul (dPeek 0) (dPeek 0)) (dCst (.int 1))) (dOp vMul (dPeek 4) (dPeek 4))) dNil)) (dPeek 0))) dNil))) [4])) dNil)))))
def m_Lmarks : List D → Cm D := fnD 5 S_Lmarks
theorem ok_Lmarks (A0 : DefAt K mg "_law_marks" s_Lmarks ["prime"]) (n_int : mg "int" = none) (n_min : mg "min" = none) (n_range : mg "range" = none) : Has P w K mg base 1 "_law_marks" ["prime"] m_Lmarks :=
  has_mk 0 A0 sc_Lmarks S_Lmarks fun f cdv A outer sh H hr =>
    (ss_cons (s_setF (i := 1) sc_Lmarks.nd rfl (by first | exact .inl rfl | exact .inr rfl) f_dnew)
      (ss_cons (s_for PassesOwn.never rfl (i_rng1 (by rfl) n_range (a_cons (e_var (pv 0)) a_nil)) (g_name (i := 2) sc_Lmarks.nd rfl (by first | exact .inl rfl | exact .inr rfl)) (ss_cons (s_set (i := 3) sc_Lmarks.nd rfl (by first | exact .inl rfl | exact .inr rfl) (e_op o_mod (e_b (e_callTy k_int (by rfl) n_int (by decide +kernel) (ab_cons (e_b (e_op o_mul (b_var (pv 2)) (b_var (pv 2)))) ab_nil))) (b_var (pv 0))))
      (ss_one (s_dput (i := 1) (hu65 hr) (pv 1) (e_var (pv 3)) (e_callB (k_min2 rfl) (by rfl) n_min (by decide +kernel) (ab_cons (b_var (pv 2)) (ab_cons (e_b (e_dget2 (hu65 hr) (b_var (pv 1)) (b_var (pv 3)) (e_var (pv 0)) ⟨by rfl, by rfl, by rfl, by rfl⟩)) ab_nil)))))))
      (ss_one (s_ret (e_callB (k_min1 rfl (hu65 hr)) (by rfl) n_min (by decide +kernel) (ab_cons (e_b (e_f (f_lc (own := [("e", 4)]) rfl sc_Lmarks.nd (i_rng1 (by rfl) n_range (a_cons (e_var (pv 0)) a_nil)) (blkOk_by (N := N_Lmarks) (sc := (defScope s_Lmarks)) (by decide +kernel)) (fun _ _ _ _ _ => (g_name (i := 4) sc_Lmarks.nd rfl (by first | exact .inl rfl | exact .inr rfl))) (fun _ _ _ _ _ => (ts_one (t_dinB (hu65 hr) (e_b (e_op o_mod (e_b (e_callTy k_int (by rfl) n_int (by decide +kernel) (ab_cons (e_b (e_op o_sub (e_b (e_op o_sub (e_b (e_op o_mul (b_var (pv 0)) (b_var (pv 0)))) (e_b e_int))) (e_b (e_op o_mul (b_var (pv 4)) (b_var (pv 4)))))) ab_nil))) (b_var (pv 0)))) (b_var (pv 1))))) (fun _ _ _ _ _ => (e_tup (a_cons (e_var (pv 4)) (a_cons (e_dgetB (hu65 hr) (b_var (pv 1)) (e_b (e_op o_mod (e_b (e_callTy k_int (by rfl) n_int (by decide +kernel) (ab_cons (e_b (e_op o_sub (e_b (e_op o_sub (e_b (e_op o_mul (b_var (pv 0)) (b_var (pv 0)))) (e_b e_int))) (e_b (e_op o_mul (b_var (pv 4)) (b_var (pv 4)))))) ab_nil))) (b_var (pv 0)))) (fun _ _ => rfl)) a_nil)))) (by decide)))) ab_nil))))))
abbrev s_Lhalf : Stmt := topS 84
abbrev N_Lhalf : List Str := ["prime", "number"]
theorem sc_Lhalf : FnScope N_Lhalf ["prime", "number"] (defScope s_Lhalf) := ⟨rfl, rfl, rfl, by decide +kernel, rfl, by decide +kernel, by decide +kernel⟩
def S_Lhalf : DS := (dRet (dOp vMod (dCall cInt (dCons (dOp vMul (dPeek 1) (dOp vDiv (dOp vAdd (dPeek 0) (dCst (.int 1))) (dCst (.int 2)))) dNil)) (dPeek 0)))
def m_Lhalf : List D → Cm D := fnD 2 S_Lhalf
theorem ok_Lhalf (A0 : DefAt K mg "_law_half" s_Lhalf ["prime", "number"]) (n_int : mg "int" = none) : Has P w K mg base 1 "_law_half" ["prime", "number"] m_Lhalf :=
  has_mk 0 A0 sc_Lhalf S_Lhalf fun f cdv A outer sh H hr =>
    (ss_one (s_ret (e_op o_mod (e_b (e_callTy k_int (by rfl) n_int (by decide +kernel) (ab_cons (e_b (e_op o_mul (b_var (pv 1)) (e_b (e_op o_div (e_b (e_op o_add (b_var (pv 0)) (e_b e_int))) (e_b e_int))))) ab_nil))) (b_var (pv 0)))))
abbrev s_Ltable : Stmt := topS 85
abbrev N_Ltable : List Str := ["prime", "quad", "e", "f", "parts", "number", "part", "at"]
theorem sc_Ltable : FnScope N_Ltable ["prime", "quad"] (defScope s_Ltable) := ⟨rfl, rfl, rfl, by decide +kernel, rfl, by decide +kernel, by decide +kernel⟩
def S_Ltable : DS := (dSeq (dAsg (dCallN 1 m_Lmarks (dCons (dVar 0) dNil)) (gTp 2 (gsCons (gN 2) (gsCons (gN 3) gsNil))))
    (dSeq (dSet 4 (dOnlyL (dLstF (dCons (dTupF (dCons (dCst (.int 1)) (dCons (dCst (.int 0)) (dCons (dCst (.int 0)) (dCons (dCst (.int 1)) dNil))))) (dCons (dTupF (dCons (dCst (.int 0)) (dCons (dUn vNeg (dCst (.int 1))) (dCons (dCst (.int 1)) (dCons (dCst (.int 0)) dNil))))) (dCons (dTupF (dCons (dVar 2) (dCons (dVar 3) (dCons (dVar 3) (dCons (dOp vSub (dCst (.int 0)) (dPeek 2)) dNil))))) (dCons (dTupF (dCons (dOp vSub (dCst (.int 0)) (dPeek 3)) (dCons (dVar 2) (dCons (dVar 2) (dCons (dVar 3) dNil))))) dNil)))))))
    (dRet (dCall cTuple (dCons (dOnlyL (dLc (dRng1 (dCons (dCst (.int 4)) dNil)) (gN 7) dYes (dCallN 2 m_Lhalf (dCons (dVar 0) (dCons (dCall cSum (dCons (dOnlyL (dLc (dZipM (dCons (dVar 1) (dCons (dVar 4) dNil))) (gTp 2 (gsCons (gN 5) (gsCons (gN 6) gsNil))) dYes (dOp vMul (dPeek 5) (dOp vIx (dPeek 6) (dPeek 7))) [5, 6])) dNil)) dNil))) [7])) dNil)))))
def m_Ltable : List D → Cm D := fnD 8 S_Ltable
theorem ok_Ltable (A0 : DefAt K mg "_law_table" s_Ltable ["prime", "quad"]) (h_Lmarks : Has P w K mg base 1 "_law_marks" ["prime"] m_Lmarks) (h_Lhalf : Has P w K mg base 1 "_law_half" ["prime", "number"] m_Lhalf) (n_range : mg "range" = none) (n_sum : mg "sum" = none) (n_tuple : mg "tuple" = none) (n_zip : mg "zip" = none) : Has P w K mg base 2 "_law_table" ["prime", "quad"] m_Ltable :=
  has_mk 1 A0 sc_Ltable S_Ltable fun f cdv A outer sh H hr =>
    (ss_cons (s_asg (e_callH h_Lmarks (hr.mono (by decide)) (by rfl) (a_cons (e_var (pv 0)) a_nil)) (g_tup (n := 2) rfl (gs_cons (g_name (i := 2) sc_Ltable.nd rfl (by first | exact .inl rfl | exact .inr rfl)) (gs_cons (g_name (i := 3) sc_Ltable.nd rfl (by first | exact .inl rfl | exact .inr rfl)) gs_nil))))
      (ss_cons (s_set (i := 4) sc_Ltable.nd rfl (by first | exact .inl rfl | exact .inr rfl) (e_f (f_lst (a_cons (e_tup (a_cons e_int (a_cons e_int (a_cons e_int (a_cons e_int a_nil))))) (a_cons (e_tup (a_cons e_int (a_cons (e_un u_neg (e_b e_int)) (a_cons e_int (a_cons e_int a_nil))))) (a_cons (e_tup (a_cons (e_var (pv 2)) (a_cons (e_var (pv 3)) (a_cons (e_var (pv 3)) (a_cons (e_op o_sub (e_b e_int) (b_var (pv 2))) a_nil))))) (a_cons (e_tup (a_cons (e_op o_sub (e_b e_int) (b_var (pv 3))) (a_cons (e_var (pv 2)) (a_cons (e_var (pv 2)) (a_cons (e_var (pv 3)) a_nil))))) a_nil)))))))
      (ss_one (s_ret (e_callTy k_tuple (by rfl) n_tuple (by decide +kernel) (ab_cons (e_b (e_f (f_lc (own := [("at", 7)]) rfl sc_Ltable.nd (i_rng1 (by rfl) n_range (a_cons e_int a_nil)) (blkOk_by (N := N_Ltable) (sc := (defScope s_Ltable)) (by decide +kernel)) (fun _ _ _ _ _ => (g_name (i := 7) sc_Ltable.nd rfl (by first | exact .inl rfl | exact .inr rfl))) (fun _ _ _ _ _ => ts_nil) (fun _ _ _ _ _ => (e_callH h_Lhalf (hr.mono (by decide)) (by rfl) (a_cons (e_var (pv 0)) (a_cons (e_callB (k_sum rfl) (by rfl) n_sum (by decide +kernel) (ab_cons (e_b (e_f (f_lc (own := [("number", 5), ("part", 6)]) rfl sc_Ltable.nd (i_zipM (by rfl) n_zip (a_cons (e_var (pv 1)) (a_cons (e_var (pv 4)) a_nil))) (blkOk_by (N := N_Ltable) (sc := (relS _ (defScope s_Ltable))) (by decide +kernel)) (fun _ _ _ _ _ => (g_tup (n := 2) rfl (gs_cons (g_name (i := 5) sc_Ltable.nd rfl (by first | exact .inl rfl | exact .inr rfl)) (gs_cons (g_name (i := 6) sc_Ltable.nd rfl (by first | exact .inl rfl | exact .inr rfl)) gs_nil)))) (fun _ _ _ _ _ => ts_nil) (fun _ _ _ _ _ => (e_op o_mul (b_var (pv 5)) (e_b (e_ix x_ix (b_var (pv 6)) (b_var (pv 7)) (fun _ _ => rfl))))) (by decide)))) ab_nil)) a_nil)))) (by decide)))) ab_nil))))))
abbrev s_Lline_of_column : Stmt := topS 86
abbrev N_Lline_of_column : List Str := ["prime", "x", "y", "turned", "number"]
theorem sc_Lline_of_column : FnScope N_Lline_of_column ["prime", "x", "y"] (defScope s_Lline_of_column) := ⟨rfl, rfl, rfl, by decide +kernel, rfl, by decide +kernel, by decide +kernel⟩
def S_Lline_of_column : DS := (dSeq (dIfS (dTru (dOp vEq (dOp vMod (dCall cInt (dCons (dPeek 1) dNil)) (dPeek 0)) (dCst (.int 0)))) (dRet (dTupF (dCons (dCst (.int 0)) (dCons (dCst (.int 1)) dNil)))) dSkip)
    (dSeq (dSet 3 (dOp vIx (dOnlyL (dLc (dRng2 (dCons (dCst (.int 1)) (dCons (dVar 0) dNil))) (gN 4) (dTru (dOp vEq (dOp vMod (dCall cInt (dCons (dOp vMul (dPeek 4) (dPeek 1)) dNil)) (dPeek 0)) (dCst (.int 1)))) (dVar 4) [4])) (dCst (.int 0))))
    (dRet (dTupF (dCons (dCst (.int 1)) (dCons (dOp vMod (dCall cInt (dCons (dOp vMul (dPeek 3) (dPeek 2)) dNil)) (dPeek 0)) dNil))))))
def m_Lline_of_column : List D → Cm D := fnD 5 S_Lline_of_column
theorem ok_Lline_of_column (A0 : DefAt K mg "_law_line_of_column" s_Lline_of_column ["prime", "x", "y"]) (n_int : mg "int" = none) (n_range : mg "range" = none) : Has P w K mg base 1 "_law_line_of_column" ["prime", "x", "y"] m_Lline_of_column :=
  has_mk 0 A0 sc_Lline_of_column S_Lline_of_column fun f cdv A outer sh H hr =>
    (ss_cons (s_if (t_cmp (o_eq hr.units) (e_b (e_op o_mod (e_b (e_callTy k_int (by rfl) n_int (by decide +kernel) (ab_cons (b_var (pv 1)) ab_nil))) (b_var (pv 0)))) (e_b e_int) (nomark _)) (ss_one (s_ret (e_tup (a_cons e_int (a_cons e_int a_nil))))) ss_nil)
      (ss_cons (s_set (i := 3) sc_Lline_of_column.nd rfl (by first | exact .inl rfl | exact .inr rfl) (e_ix x_ix (e_b (e_f (f_lc (own := [("number", 4)]) rfl sc_Lline_of_column.nd (i_rng2 (by rfl) n_range (a_cons e_int (a_cons (e_var (pv 0)) a_nil))) (blkOk_by (N := N_Lline_of_column) (sc := (defScope s_Lline_of_column)) (by decide +kernel)) (fun _ _ _ _ _ => (g_name (i := 4) sc_Lline_of_column.nd rfl (by first | exact .inl rfl | exact .inr rfl))) (fun _ _ _ _ _ => (ts_one (t_cmp (o_eq hr.units) (e_b (e_op o_mod (e_b (e_callTy k_int (by rfl) n_int (by decide +kernel) (ab_cons (e_b (e_op o_mul (b_var (pv 4)) (b_var (pv 1)))) ab_nil))) (b_var (pv 0)))) (e_b e_int) (nomark _)))) (fun _ _ _ _ _ => (e_var (pv 4))) (by decide)))) (e_b e_int) (fun _ _ => rfl)))
      (ss_one (s_ret (e_tup (a_cons e_int (a_cons (e_op o_mod (e_b (e_callTy k_int (by rfl) n_int (by decide +kernel) (ab_cons (e_b (e_op o_mul (b_var (pv 3)) (b_var (pv 2)))) ab_nil))) (b_var (pv 0))) a_nil)))))))
abbrev s_Lline : Stmt := topS 87
abbrev N_Lline : List Str := ["prime", "quad", "a", "b", "c", "d"]
theorem sc_Lline : FnScope N_Lline ["prime", "quad"] (defScope s_Lline) := ⟨rfl, rfl, rfl, by decide +kernel, rfl, by decide +kernel, by decide +kernel⟩
def S_Lline : DS := (dSeq (dAsg (dCallN 2 m_Ltable (dCons (dVar 0) (dCons (dVar 1) dNil))) (gTp 4 (gsCons (gN 2) (gsCons (gN 3) (gsCons (gN 4) (gsCons (gN 5) gsNil))))))
    (dRet (dIf (dTru (dOp vNe (dTupF (dCons (dVar 2) (dCons (dVar 4) dNil))) (dTupF (dCons (dCst (.int 0)) (dCons (dCst (.int 0)) dNil))))) (dCallN 3 m_Lline_of_column (dCons (dVar 0) (dCons (dVar 2) (dCons (dVar 4) dNil)))) (dCallN 3 m_Lline_of_column (dCons (dVar 0) (dCons (dVar 3) (dCons (dVar 5) dNil)))))))
def m_Lline : List D → Cm D := fnD 6 S_Lline
theorem ok_Lline (A0 : DefAt K mg "_law_line" s_Lline ["prime", "quad"]) (h_Ltable : Has P w K mg base 2 "_law_table" ["prime", "quad"] m_Ltable) (h_Lline_of_column : Has P w K mg base 1 "_law_line_of_column" ["prime", "x", "y"] m_Lline_of_column) : Has P w K mg base 3 "_law_line" ["prime", "quad"] m_Lline :=
  has_mk 2 A0 sc_Lline S_Lline fun f cdv A outer sh H hr =>
    (ss_cons (s_asg (e_callH h_Ltable (hr.mono (by decide)) (by rfl) (a_cons (e_var (pv 0)) (a_cons (e_var (pv 1)) a_nil))) (g_tup (n := 4) rfl (gs_cons (g_name (i := 2) sc_Lline.nd rfl (by first | exact .inl rfl | exact .inr rfl)) (gs_cons (g_name (i := 3) sc_Lline.nd rfl (by first | exact .inl rfl | exact .inr rfl)) (gs_cons (g_name (i := 4) sc_Lline.nd rfl (by first | exact .inl rfl | exact .inr rfl)) (gs_cons (g_name (i := 5) sc_Lline.nd rfl (by first | exact .inl rfl | exact .inr rfl)) gs_nil))))))
      (ss_one (s_ret (e_ifExp (t_cmp (o_ne hr.units) (e_b (e_tup (a_cons (e_var (pv 2)) (a_cons (e_var (pv 4)) a_nil)))) (e_b (e_tup (a_cons e_int (a_cons e_int a_nil)))) (nomark _)) (e_callH h_Lline_of_column (hr.mono (by decide)) (by rfl) (a_cons (e_var (pv 0)) (a_cons (e_var (pv 2)) (a_cons (e_var (pv 4)) a_nil)))) (e_callH h_Lline_of_column (hr.mono (by decide)) (by rfl) (a_cons (e_var (pv 0)) (a_cons (e_var (pv 3)) (a_cons (e_var (pv 5)) a_nil))))))))
abbrev s_Lhas_line : Stmt := topS 88
abbrev N_Lhas_line : List Str := ["prime", "quad"]
theorem sc_Lhas_line : FnScope N_Lhas_line ["prime", "quad"] (defScope s_Lhas_line) := ⟨rfl, rfl, rfl, by decide +kernel, rfl, by decide +kernel, by decide +kernel⟩
def S_Lhas_line : DS := (dRet (dAndV (dOp vNe (dPeek 1) (dTupF (dCons (dCst (.int 0)) (dCons (dCst (.int 0)) (dCons (dCst (.int 0)) (dCons (dCst (.int 0)) dNil)))))) (dAndV (dOp vEq (dOp vMod (dCall cInt (dCons (dCallN 1 m_Lsize (dCons (dVar 1) dNil)) dNil)) (dPeek 0)) (dCst (.int 0))) (dOp vNe (dOp vMod (dCall cInt (dCons (dOp vIx (dCallN 1 m_Lcontent (dCons (dVar 1) dNil)) (dCst (.int 0))) dNil)) (dPeek 0)) (dCst (.int 0))))))
def m_Lhas_line : List D → Cm D := fnD 2 S_Lhas_line
theorem ok_Lhas_line (A0 : DefAt K mg "_law_has_line" s_Lhas_line ["prime", "quad"]) (h_Lsize : Has P w K mg base 1 "_law_size" ["quad"] m_Lsize) (h_Lcontent : Has P w K mg base 2 "_law_content" ["quad"] m_Lcontent) (n_int : mg "int" = none) : Has P w K mg base 3 "_law_has_line" ["prime", "quad"] m_Lhas_line :=
  has_mk 2 A0 sc_Lhas_line S_Lhas_line fun f cdv A outer sh H hr =>
    (ss_one (s_ret (e_and (e_cmp (o_ne hr.units) (b_var (pv 1)) (e_b (e_tup (a_cons e_int (a_cons e_int (a_cons e_int (a_cons e_int a_nil)))))) (nomark _)) (e_and (e_cmp (o_eq hr.units) (e_b (e_op o_mod (e_b (e_callTy k_int (by rfl) n_int (by decide +kernel) (ab_cons (e_b (e_callH h_Lsize (hr.mono (by decide)) (by rfl) (a_cons (e_var (pv 1)) a_nil))) ab_nil))) (b_var (pv 0)))) (e_b e_int) (nomark _)) (e_one (e_cmp (o_ne hr.units) (e_b (e_op o_mod (e_b (e_callTy k_int (by rfl) n_int (by decide +kernel) (ab_cons (e_b (e_ix x_ix (e_b (e_callH h_Lcontent (hr.mono (by decide)) (by rfl) (a_cons (e_var (pv 1)) a_nil))) (e_b e_int) (fun _ _ => rfl))) ab_nil))) (b_var (pv 0)))) (e_b e_int) (nomark _)))))))
abbrev s_Llined : Stmt := topS 89
abbrev N_Llined : List Str := ["draw", "prime", "e", "f", "path", "lap", "one", "other", "a", "b", "c", "d", "parts", "kind", "quad", "part"]
theorem sc_Llined : FnScope N_Llined ["draw", "prime"] (defScope s_Llined) := ⟨rfl, rfl, rfl, by decide +kernel, rfl, by decide +kernel, by decide +kernel⟩
def S_Llined : DS := (dSeq (dAsg (dTupF (dCons (dCallN 1 m_Lmarks (dCons (dVar 1) dNil)) (dCons (dCallN 2 m_Lpick (dCons (dVar 0) (dCons (dOnlyL (dLstF (dCons (dTupF (dCons (dCst (.int 0)) (dCons (dCst (.int 1)) dNil))) (dCons (dTupF (dCons (dCst (.int 1)) (dCons (dCallN 2 m_Ltake (dCons (dVar 0) (dCons (dVar 1) dNil))) dNil))) dNil)))) dNil))) dNil))) (gTp 2 (gsCons (gTp 2 (gsCons (gN 2) (gsCons (gN 3) gsNil))) (gsCons (gN 4) gsNil))))
    (dSeq (dFor (dRng1 (dCons (dCst (.int 3)) dNil)) (gN 5) (dSeq (dPar 6 7 (dCallN 2 m_Ltake (dCons (dVar 0) (dCons (dVar 1) dNil))) (dOp vAdd (dCst (.int 1)) (dCallN 2 m_Ltake (dCons (dVar 0) (dCons (dOp vSub (dPeek 1) (dCst (.int 1))) dNil)))))
    (dSeq (dAsg (dTupF (dCons (dOp vMul (dOp vIx (dPeek 4) (dCst (.int 0))) (dPeek 6)) (dCons (dOp vMul (dOp vIx (dPeek 4) (dCst (.int 0))) (dPeek 7)) (dCons (dOp vMul (dOp vIx (dPeek 4) (dCst (.int 1))) (dPeek 6)) (dCons (dOp vMul (dOp vIx (dPeek 4) (dCst (.int 1))) (dPeek 7)) dNil))))) (gTp 4 (gsCons (gN 8) (gsCons (gN 9) (gsCons (gN 10) (gsCons (gN 11) gsNil))))))
    (dSeq (dSet 12 (dOnlyL (dLstF (dCons (dOp vAdd (dPeek 8) (dPeek 11)) (dCons (dOp vSub (dPeek 10) (dPeek 9)) (dCons (dOp vSub (dOp vSub (dCst (.int 0)) (dOp vMul (dPeek 2) (dOp vSub (dPeek 8) (dPeek 11)))) (dOp vMul (dPeek 3) (dOp vAdd (dPeek 9) (dPeek 10)))) (dCons (dOp vSub (dOp vMul (dPeek 3) (dOp vSub (dPeek 8) (dPeek 11))) (dOp vMul (dPeek 2) (dOp vAdd (dPeek 9) (dPeek 10)))) dNil)))))))
    (dSeq (dSet 13 (dCallN 2 m_Ltake (dCons (dVar 0) (dCons (dCst (.int 2)) dNil))))
    (dSeq (dSet 14 (dCall cTuple (dCons (dOnlyL (dLc (dItems (dVar 12)) (gN 15) dYes (dOp vAdd (dOp vAdd (dOp vMul (dCst (.int 2)) (dCallN 2 m_Lhalf (dCons (dVar 1) (dCons (dVar 15) dNil)))) (dOp vMul (dPeek 13) (dPeek 1))) (dOp vMul (dOp vMul (dCst (.int 2)) (dPeek 1)) (dOp vSub (dCallN 2 m_Ltake (dCons (dVar 0) (dCons (dCst (.int 5)) dNil))) (dCst (.int 2))))) [15])) dNil)))
    (dIfS (dTru (dCallN 2 m_Lhas_line (dCons (dVar 1) (dCons (dVar 14) dNil)))) (dRet (dVar 14)) dSkip)))))))
    (dRet (dCall cTuple (dCons (dOnlyL (dLc (dItems (dVar 12)) (gN 15) dYes (dOp vMul (dCst (.int 2)) (dCallN 2 m_Lhalf (dCons (dVar 1) (dCons (dVar 15) dNil)))) [15])) dNil)))))
def m_Llined : List D → Cm D := fnD 16 S_Llined
theorem ok_Llined (A0 : DefAt K mg "_law_lined" s_Llined ["draw", "prime"]) (h_Lpick : Has P w K mg base 3 "_law_pick" ["draw", "some"] m_Lpick) (h_Ltake : Has P w K mg base 2 "_law_take" ["draw", "amount"] m_Ltake) (h_Lmarks : Has P w K mg base 1 "_law_marks" ["prime"] m_Lmarks) (h_Lhalf : Has P w K mg base 1 "_law_half" ["prime", "number"] m_Lhalf) (h_Lhas_line : Has P w K mg base 3 "_law_has_line" ["prime", "quad"] m_Lhas_line) (n_range : mg "range" = none) (n_tuple : mg "tuple" = none) : Has P w K mg base 4 "_law_lined" ["draw", "prime"] m_Llined :=
  has_mk 3 A0 sc_Llined S_Llined fun f cdv A outer sh H hr =>
    (ss_cons (s_asg (e_tup (a_cons (e_callH h_Lmarks (hr.mono (by decide)) (by rfl) (a_cons (e_var (pv 1)) a_nil)) (a_cons (e_callH h_Lpick (hr.mono (by decide)) (by rfl) (a_cons (e_var (pv 0)) (a_cons (e_f (f_lst (a_cons (e_tup (a_cons e_int (a_cons e_int a_nil))) (a_cons (e_tup (a_cons e_int (a_cons (e_callH h_Ltake (hr.mono (by decide)) (by rfl) (a_cons (e_var (pv 0)) (a_cons (e_var (pv 1)) a_nil))) a_nil))) a_nil)))) a_nil))) a_nil))) (g_tup (n := 2) rfl (gs_cons (g_tup (n := 2) rfl (gs_cons (g_name (i := 2) sc_Llined.nd rfl (by first | exact .inl rfl | exact .inr rfl)) (gs_cons (g_name (i := 3) sc_Llined.nd rfl (by first | exact .inl rfl | exact .inr rfl)) gs_nil))) (gs_cons (g_name (i := 4) sc_Llined.nd rfl (by first | exact .inl rfl | exact .inr rfl)) gs_nil))))
      (ss_cons (s_for PassesOwn.never rfl (i_rng1 (by rfl) n_range (a_cons e_int a_nil)) (g_name (i := 5) sc_Llined.nd rfl (by first | exact .inl rfl | exact .inr rfl)) (ss_cons (s_par (i := 6) (j := 7) rfl sc_Llined.nd rfl rfl (by decide) rfl rfl (e_callH h_Ltake (hr.mono (by decide)) (by rfl) (a_cons (e_var (pv 0)) (a_cons (e_var (pv 1)) a_nil))) (e_op o_add (e_b e_int) (e_b (e_callH h_Ltake (hr.mono (by decide)) (by rfl) (a_cons (e_var (pv 0)) (a_cons (e_op o_sub (b_var (pv 1)) (e_b e_int)) a_nil))))) (by rfl))
      (ss_cons (s_asg (e_tup (a_cons (e_op o_mul (e_b (e_ix x_ix (b_var (pv 4)) (e_b e_int) (fun _ _ => rfl))) (b_var (pv 6))) (a_cons (e_op o_mul (e_b (e_ix x_ix (b_var (pv 4)) (e_b e_int) (fun _ _ => rfl))) (b_var (pv 7))) (a_cons (e_op o_mul (e_b (e_ix x_ix (b_var (pv 4)) (e_b e_int) (fun _ _ => rfl))) (b_var (pv 6))) (a_cons (e_op o_mul (e_b (e_ix x_ix (b_var (pv 4)) (e_b e_int) (fun _ _ => rfl))) (b_var (pv 7))) a_nil))))) (g_tup (n := 4) rfl (gs_cons (g_name (i := 8) sc_Llined.nd rfl (by first | exact .inl rfl | exact .inr rfl)) (gs_cons (g_name (i := 9) sc_Llined.nd rfl (by first | exact .inl rfl | exact .inr rfl)) (gs_cons (g_name (i := 10) sc_Llined.nd rfl (by first | exact .inl rfl | exact .inr rfl)) (gs_cons (g_name (i := 11) sc_Llined.nd rfl (by first | exact .inl rfl | exact .inr rfl)) gs_nil))))))
      (ss_cons (s_set (i := 12) sc_Llined.nd rfl (by first | exact .inl rfl | exact .inr rfl) (e_f (f_lst (a_cons (e_op o_add (b_var (pv 8)) (b_var (pv 11))) (a_cons (e_op o_sub (b_var (pv 10)) (b_var (pv 9))) (a_cons (e_op o_sub (e_b (e_op o_sub (e_b e_int) (e_b (e_op o_mul (b_var (pv 2)) (e_b (e_op o_sub (b_var (pv 8)) (b_var (pv 11)))))))) (e_b (e_op o_mul (b_var (pv 3)) (e_b (e_op o_add (b_var (pv 9)) (b_var (pv 10))))))) (a_cons (e_op o_sub (e_b (e_op o_mul (b_var (pv 3)) (e_b (e_op o_sub (b_var (pv 8)) (b_var (pv 11)))))) (e_b (e_op o_mul (b_var (pv 2)) (e_b (e_op o_add (b_var (pv 9)) (b_var (pv 10))))))) a_nil)))))))
      (ss_cons (s_set (i := 13) sc_Llined.nd rfl (by first | exact .inl rfl | exact .inr rfl) (e_callH h_Ltake (hr.mono (by decide)) (by rfl) (a_cons (e_var (pv 0)) (a_cons e_int a_nil))))
      (ss_cons (s_set (i := 14) sc_Llined.nd rfl (by first | exact .inl rfl | exact .inr rfl) (e_callTy k_tuple (by rfl) n_tuple (by decide +kernel) (ab_cons (e_b (e_f (f_lc (own := [("part", 15)]) rfl sc_Llined.nd (i_seq (e_var (pv 12))) (blkOk_by (N := N_Llined) (sc := (defScope s_Llined)) (by decide +kernel)) (fun _ _ _ _ _ => (g_name (i := 15) sc_Llined.nd rfl (by first | exact .inl rfl | exact .inr rfl))) (fun _ _ _ _ _ => ts_nil) (fun _ _ _ _ _ => (e_op o_add (e_b (e_op o_add (e_b (e_op o_mul (e_b e_int) (e_b (e_callH h_Lhalf (hr.mono (by decide)) (by rfl) (a_cons (e_var (pv 1)) (a_cons (e_var (pv 15)) a_nil)))))) (e_b (e_op o_mul (b_var (pv 13)) (b_var (pv 1)))))) (e_b (e_op o_mul (e_b (e_op o_mul (e_b e_int) (b_var (pv 1)))) (e_b (e_op o_sub (e_b (e_callH h_Ltake (hr.mono (by decide)) (by rfl) (a_cons (e_var (pv 0)) (a_cons e_int a_nil)))) (e_b e_int))))))) (by decide)))) ab_nil)))
      (ss_one (s_if (t_val (e_callH h_Lhas_line (hr.mono (by decide)) (by rfl) (a_cons (e_var (pv 1)) (a_cons (e_var (pv 14)) a_nil)))) (ss_one (s_ret (e_var (pv 14)))) ss_nil))))))))
      (ss_one (s_ret (e_callTy k_tuple (by rfl) n_tuple (by decide +kernel) (ab_cons (e_b (e_f (f_lc (own := [("part", 15)]) rfl sc_Llined.nd (i_seq (e_var (pv 12))) (blkOk_by (N := N_Llined) (sc := (defScope s_Llined)) (by decide +kernel)) (fun _ _ _ _ _ => (g_name (i := 15) sc_Llined.nd rfl (by first | exact .inl rfl | exact .inr rfl))) (fun _ _ _ _ _ => ts_nil) (fun _ _ _ _ _ => (e_op o_mul (e_b e_int) (e_b (e_callH h_Lhalf (hr.mono (by decide)) (by rfl) (a_cons (e_var (pv 1)) (a_cons (e_var (pv 15)) a_nil)))))) (by decide)))) ab_nil))))))
abbrev s_quads_of : Stmt := topS 44
abbrev N_quads_of : List Str := ["number", "most", "found", "a", "b", "rest", "c", "d"]
theorem sc_quads_of : FnScope N_quads_of ["number"] (defScope s_quads_of) := ⟨rfl, rfl, rfl, by decide +kernel, rfl, by decide +kernel, by decide +kernel⟩
def S_quads_of : DS := (dSeq (dParVF 1 2 (dCallN 1 m_root_of (dCons (dOp vMul (dCst (.int 4)) (dPeek 0)) dNil)) (dLstF dNil))
    (dSeq (dFor (dRng2 (dCons (dCst (.int 1)) (dCons (dOp vAdd (dPeek 1) (dCst (.int 1))) dNil))) (gN 3) (dFor (dRng3 (dCons (dUn vNeg (dPeek 3)) (dCons (dOp vAdd (dPeek 3) (dCst (.int 1))) (dCons (dCst (.int 2)) dNil)))) (gN 4) (dSeq (dSet 5 (dOp vSub (dOp vSub (dOp vMul (dCst (.int 4)) (dPeek 0)) (dOp vMul (dPeek 3) (dPeek 3))) (dOp vMul (dPeek 4) (dPeek 4))))
    (dIfS (dTru (dOp (vCmp pGe) (dPeek 5) (dCst (.int 0)))) (dExt 2 (dOnlyL (dLc (dItems (dCallN 2 m_squares_of (dCons (dVar 5) (dCons (dVar 3) dNil)))) (gTp 2 (gsCons (gN 6) (gsCons (gN 7) gsNil))) dYes (dTupF (dCons (dVar 3) (dCons (dVar 4) (dCons (dVar 6) (dCons (dVar 7) dNil))))) [6, 7]))) dSkip))))
    (dFrz 2 (dRet (dVar 2)))))
def m_quads_of : List D → Cm D := fnD 8 S_quads_of
theorem ok_quads_of (A0 : DefAt K mg "quads_of" s_quads_of ["number"]) (h_root_of : Has P w K mg base 1 "root_of" ["number"] m_root_of) (h_squares_of : Has P w K mg base 2 "squares_of" ["number", "most"] m_squares_of) (n_range : mg "range" = none) : Has P w K mg base 3 "quads_of" ["number"] m_quads_of :=
  has_mk 2 A0 sc_quads_of S_quads_of fun f cdv A outer sh H hr =>
    (ss_cons (s_parVF (i := 1) (j := 2) rfl sc_quads_of.nd rfl rfl (by decide) rfl rfl (e_callH h_root_of (hr.mono (by decide)) (by rfl) (a_cons (e_op o_mul (e_b e_int) (b_var (pv 0))) a_nil)) (f_lst a_nil) (by rfl))
      (ss_cons (s_for PassesOwn.never rfl (i_rng2 (by rfl) n_range (a_cons e_int (a_cons (e_op o_add (b_var (pv 1)) (e_b e_int)) a_nil))) (g_name (i := 3) sc_quads_of.nd rfl (by first | exact .inl rfl | exact .inr rfl)) (ss_one (s_for PassesOwn.never rfl (i_rng3 (by rfl) n_range (a_cons (e_un u_neg (b_var (pv 3))) (a_cons (e_op o_add (b_var (pv 3)) (e_b e_int)) (a_cons e_int a_nil)))) (g_name (i := 4) sc_quads_of.nd rfl (by first | exact .inl rfl | exact .inr rfl)) (ss_cons (s_set (i := 5) sc_quads_of.nd rfl (by first | exact .inl rfl | exact .inr rfl) (e_op o_sub (e_b (e_op o_sub (e_b (e_op o_mul (e_b e_int) (b_var (pv 0)))) (e_b (e_op o_mul (b_var (pv 3)) (b_var (pv 3)))))) (e_b (e_op o_mul (b_var (pv 4)) (b_var (pv 4))))))
      (ss_one (s_if (t_cmp o_ge (b_var (pv 5)) (e_b e_int) (nomark _)) (ss_one (s_ext (i := 2) (pv 2) (x_f (f_lc (own := [("c", 6), ("d", 7)]) rfl sc_quads_of.nd (i_seq (e_callH h_squares_of (hr.mono (by decide)) (by rfl) (a_cons (e_var (pv 5)) (a_cons (e_var (pv 3)) a_nil)))) (blkOk_by (N := N_quads_of) (sc := (defScope s_quads_of)) (by decide +kernel)) (fun _ _ _ _ _ => (g_tup (n := 2) rfl (gs_cons (g_name (i := 6) sc_quads_of.nd rfl (by first | exact .inl rfl | exact .inr rfl)) (gs_cons (g_name (i := 7) sc_quads_of.nd rfl (by first | exact .inl rfl | exact .inr rfl)) gs_nil)))) (fun _ _ _ _ _ => ts_nil) (fun _ _ _ _ _ => (e_tup (a_cons (e_var (pv 3)) (a_cons (e_var (pv 4)) (a_cons (e_var (pv 6)) (a_cons (e_var (pv 7)) a_nil)))))) (by decide))) (fun ho ha => pe_bm PySem.F.plainAttrs_list PySem.F.slot_list_extend PySem.F.type_list_extend mt_extend ho ha))) ss_nil))))))
      (ss_one (s_frz 2 (s_ret (e_var (pv 2)))))))
abbrev s_firsts_by : Stmt := topS 46
abbrev N_firsts_by : List Str := ["prime", "quad"]
theorem sc_firsts_by : FnScope N_firsts_by ["prime"] (defScope s_firsts_by) := ⟨rfl, rfl, rfl, by decide +kernel, rfl, by decide +kernel, by decide +kernel⟩
def S_firsts_by : DS := (dRet (dCall cSortD (dCons (dDc (dItems (dCallN 1 m_quads_of (dCons (dVar 0) dNil))) (gN 1) dYes (dCallN 1 m_first_by (dCons (dVar 1) dNil)) (dCst (.bool true)) [1]) dNil)))
def m_firsts_by : List D → Cm D := fnD 2 S_firsts_by
theorem ok_firsts_by (A0 : DefAt K mg "firsts_by" s_firsts_by ["prime"]) (h_quads_of : Has P w K mg base 3 "quads_of" ["number"] m_quads_of) (h_first_by : Has P w K mg base 2 "first_by" ["quad"] m_first_by) (n_sorted : mg "sorted" = none) : Has P w K mg base 4 "firsts_by" ["prime"] m_firsts_by :=
  has_mk 3 A0 sc_firsts_by S_firsts_by fun f cdv A outer sh H hr =>
    (ss_one (s_ret (e_callB (k_sortD rfl (hu65 hr)) (by rfl) n_sorted (by decide +kernel) (ab_cons (b_f (f_dc (own := [("quad", 1)]) (hu65 hr) rfl sc_firsts_by.nd (i_seq (e_callH h_quads_of (hr.mono (by decide)) (by rfl) (a_cons (e_var (pv 0)) a_nil))) (blkOk_by (N := N_firsts_by) (sc := (defScope s_firsts_by)) (by decide +kernel)) (fun _ _ _ _ _ => (g_name (i := 1) sc_firsts_by.nd rfl (by first | exact .inl rfl | exact .inr rfl))) (fun _ _ _ _ _ => ts_nil) (fun _ _ _ _ _ => (e_callH h_first_by (hr.mono (by decide)) (by rfl) (a_cons (e_var (pv 1)) a_nil))) (fun _ _ _ _ _ => e_bl) (by decide))) ab_nil))))
abbrev s_first_of_line : Stmt := topS 67
abbrev N_first_of_line : List Str := ["prime", "line", "quad"]
theorem sc_first_of_line : FnScope N_first_of_line ["prime", "line"] (defScope s_first_of_line) := ⟨rfl, rfl, rfl, by decide +kernel, rfl, by decide +kernel, by decide +kernel⟩
def S_first_of_line : DS := (dSeq (dDrop (dCallN 1 m_need_odd (dCons (dVar 0) dNil)))
    (dSeq (dIfS (dTru (dOp (vCmp pGt) (dPeek 0) (dCst D_MOST_LISTED))) dNever dSkip)
    (dSeq (dDrop (dCallN 2 m_need_line (dCons (dVar 0) (dCons (dVar 1) dNil))))
    (dRet (dOp vIx (dOnlyL (dLc (dItems (dCallN 1 m_firsts_by (dCons (dVar 0) dNil))) (gN 2) (dTru (dOp vEq (dCallN 2 m_line_by (dCons (dVar 0) (dCons (dVar 2) dNil))) (dPeek 1))) (dVar 2) [2])) (dCst (.int 0)))))))
def m_first_of_line : List D → Cm D := fnD 3 S_first_of_line
theorem ok_first_of_line (A0 : DefAt K mg "first_of_line" s_first_of_line ["prime", "line"]) (h_need_odd : Has P w K mg base 4 "need_odd" ["prime"] m_need_odd) (h_need_line : Has P w K mg base 3 "need_line" ["prime", "line"] m_need_line) (h_firsts_by : Has P w K mg base 4 "firsts_by" ["prime"] m_firsts_by) (h_line_by : Has P w K mg base 3 "line_by" ["prime", "quad"] m_line_by) (c_MOST_LISTED : CstAt K mg "MOST_LISTED" D_MOST_LISTED) : Has P w K mg base 5 "first_of_line" ["prime", "line"] m_first_of_line :=
  has_mk 4 A0 sc_first_of_line S_first_of_line fun f cdv A outer sh H hr =>
    (ss_cons (s_drop (e_callH h_need_odd (hr.mono (by decide)) (by rfl) (a_cons (e_var (pv 0)) a_nil)))
      (ss_cons (s_if (t_cmp o_gt (b_var (pv 0)) (e_b (e_cst c_MOST_LISTED (by rfl))) (nomark _)) (ss_one s_never) ss_nil)
      (ss_cons (s_drop (e_callH h_need_line (hr.mono (by decide)) (by rfl) (a_cons (e_var (pv 0)) (a_cons (e_var (pv 1)) a_nil))))
      (ss_one (s_ret (e_ix x_ix (e_b (e_f (f_lc (own := [("quad", 2)]) rfl sc_first_of_line.nd (i_seq (e_callH h_firsts_by (hr.mono (by decide)) (by rfl) (a_cons (e_var (pv 0)) a_nil))) (blkOk_by (N := N_first_of_line) (sc := (defScope s_first_of_line)) (by decide +kernel)) (fun _ _ _ _ _ => (g_name (i := 2) sc_first_of_line.nd rfl (by first | exact .inl rfl | exact .inr rfl))) (fun _ _ _ _ _ => (ts_one (t_cmp (o_eq hr.units) (e_b (e_callH h_line_by (hr.mono (by decide)) (by rfl) (a_cons (e_var (pv 0)) (a_cons (e_var (pv 2)) a_nil)))) (b_var (pv 1)) (nomark _)))) (fun _ _ _ _ _ => (e_var (pv 2))) (by decide)))) (e_b e_int) (fun _ _ => rfl)))))))
abbrev s_Lunits : Stmt := topS 75
abbrev N_Lunits : List Str := ["halves", "a", "b", "c", "d", "wholes", "to", "at", "sign"]
theorem sc_Lunits : FnScope N_Lunits [] (defScope s_Lunits) := ⟨rfl, rfl, rfl, by decide +kernel, rfl, by decide +kernel, by decide +kernel⟩
def S_Lunits : DS := (dSeq (dSet 0 (dOnlyL (dLc (dItems (dCallN 1 m_Lrows (dCons (dOnlyL (dLstF (dCons (dUn vNeg (dCst (.int 1))) (dCons (dCst (.int 1)) dNil)))) dNil))) (gTp 4 (gsCons (gN 1) (gsCons (gN 2) (gsCons (gN 3) (gsCons (gN 4) gsNil))))) dYes (dTupF (dCons (dVar 1) (dCons (dVar 2) (dCons (dVar 3) (dCons (dVar 4) dNil))))) [1, 2, 3, 4])))
    (dSeq (dSet 5 (dOnlyL (dLc (dItems (dCall cSumL (dCons (dOnlyL (dLc (dRng1 (dCons (dCst (.int 4)) dNil)) (gN 7) dYes (dOnlyL (dLstF (dCons (dTupF (dCons (dVar 7) (dCons (dCst (.int 2)) dNil))) (dCons (dTupF (dCons (dVar 7) (dCons (dUn vNeg (dCst (.int 2))) dNil))) dNil)))) [7])) (dCons (dOnlyL (dLstF dNil)) dNil)))) (gTp 2 (gsCons (gN 7) (gsCons (gN 8) gsNil))) dYes (dCall cTuple (dCons (dOnlyL (dLc (dRng1 (dCons (dCst (.int 4)) dNil)) (gN 6) dYes (dIf (dTru (dOp vEq (dPeek 7) (dPeek 6))) (dVar 8) (dCst (.int 0))) [6])) dNil)) [7, 8])))
    (dRet (dCall cSortL (dCons (dOp vAdd (dPeek 0) (dPeek 5)) dNil)))))
def m_Lunits : List D → Cm D := fnD 9 S_Lunits
theorem ok_Lunits (A0 : DefAt K mg "_law_units" s_Lunits []) (h_Lrows : Has P w K mg base 1 "_law_rows" ["numbers"] m_Lrows) (n_range : mg "range" = none) (n_sorted : mg "sorted" = none) (n_sum : mg "sum" = none) (n_tuple : mg "tuple" = none) : Has P w K mg base 2 "_law_units" [] m_Lunits :=
  has_mk 1 A0 sc_Lunits S_Lunits fun f cdv A outer sh H hr =>
    (ss_cons (s_setLcV (i := 0) (own := [("a", 1), ("b", 2), ("c", 3), ("d", 4)]) rfl sc_Lunits.nd rfl rfl (sw_true rfl rfl rfl (by decide +kernel)) (i_seq (e_callH h_Lrows (hr.mono (by decide)) (by rfl) (a_cons (e_f (f_lst (a_cons (e_un u_neg (e_b e_int)) (a_cons e_int a_nil)))) a_nil))) (blkOk_by (N := N_Lunits) (sc := (defScope s_Lunits)) (by decide +kernel)) (fun _ _ _ _ _ => (g_tup (n := 4) rfl (gs_cons (g_name (i := 1) sc_Lunits.nd rfl (by first | exact .inl rfl | exact .inr rfl)) (gs_cons (g_name (i := 2) sc_Lunits.nd rfl (by first | exact .inl rfl | exact .inr rfl)) (gs_cons (g_name (i := 3) sc_Lunits.nd rfl (by first | exact .inl rfl | exact .inr rfl)) (gs_cons (g_name (i := 4) sc_Lunits.nd rfl (by first | exact .inl rfl | exact .inr rfl)) gs_nil)))))) (fun _ _ _ _ _ => ts_nil) (fun _ _ _ _ _ => (e_tup (a_cons (e_var (pv 1)) (a_cons (e_var (pv 2)) (a_cons (e_var (pv 3)) (a_cons (e_var (pv 4)) a_nil)))))) (by decide))
      (ss_cons (s_setLcV (i := 5) (own := [("at", 7), ("sign", 8)]) rfl sc_Lunits.nd rfl rfl (sw_true rfl rfl rfl (by decide +kernel)) (i_seq (e_callB (k_sumL rfl) (by rfl) n_sum (by decide +kernel) (ab_cons (e_b (e_f (f_lc (own := [("at", 7)]) rfl sc_Lunits.nd (i_rng1 (by rfl) n_range (a_cons e_int a_nil)) (blkOk_by (N := N_Lunits) (sc := (defScope s_Lunits)) (by decide +kernel)) (fun _ _ _ _ _ => (g_name (i := 7) sc_Lunits.nd rfl (by first | exact .inl rfl | exact .inr rfl))) (fun _ _ _ _ _ => ts_nil) (fun _ _ _ _ _ => (e_f (f_lst (a_cons (e_tup (a_cons (e_var (pv 7)) (a_cons e_int a_nil))) (a_cons (e_tup (a_cons (e_var (pv 7)) (a_cons (e_un u_neg (e_b e_int)) a_nil))) a_nil))))) (by decide)))) (ab_cons (e_b (e_f (f_lst a_nil))) ab_nil)))) (blkOk_by (N := N_Lunits) (sc := (defScope s_Lunits)) (by decide +kernel)) (fun _ _ _ _ _ => (g_tup (n := 2) rfl (gs_cons (g_name (i := 7) sc_Lunits.nd rfl (by first | exact .inl rfl | exact .inr rfl)) (gs_cons (g_name (i := 8) sc_Lunits.nd rfl (by first | exact .inl rfl | exact .inr rfl)) gs_nil)))) (fun _ _ _ _ _ => ts_nil) (fun _ _ _ _ _ => (e_callTy k_tuple (by rfl) n_tuple (by decide +kernel) (ab_cons (e_b (e_f (f_lc (own := [("to", 6)]) rfl sc_Lunits.nd (i_rng1 (by rfl) n_range (a_cons e_int a_nil)) (blkOk_by (N := N_Lunits) (sc := (relS _ (defScope s_Lunits))) (by decide +kernel)) (fun _ _ _ _ _ => (g_name (i := 6) sc_Lunits.nd rfl (by first | exact .inl rfl | exact .inr rfl))) (fun _ _ _ _ _ => ts_nil) (fun _ _ _ _ _ => (e_ifExp (t_cmp (o_eq hr.units) (b_var (pv 7)) (b_var (pv 6)) (nomark _)) (e_var (pv 8)) e_int)) (by decide)))) ab_nil))) (by decide))
      (ss_one (s_ret (e_callB (k_sort1 (hu65 hr)) (by rfl) n_sorted (by decide +kernel) (ab_cons (e_b (e_op o_add (b_var (pv 0)) (b_var (pv 5)))) ab_nil))))))
abbrev s_Lunit : Stmt := topS 81
abbrev N_Lunit : List Str := ["draw"]
theorem sc_Lunit : FnScope N_Lunit ["draw"] (defScope s_Lunit) := ⟨rfl, rfl, rfl, by decide +kernel, rfl, by decide +kernel, by decide +kernel⟩
def S_Lunit : DS := (dRet (dCallN 2 m_Lpick (dCons (dVar 0) (dCons (dCallN 0 m_Lunits dNil) dNil))))
def m_Lunit : List D → Cm D := fnD 1 S_Lunit
theorem ok_Lunit (A0 : DefAt K mg "_law_unit" s_Lunit ["draw"]) (h_Lpick : Has P w K mg base 3 "_law_pick" ["draw", "some"] m_Lpick) (h_Lunits : Has P w K mg base 2 "_law_units" [] m_Lunits) : Has P w K mg base 4 "_law_unit" ["draw"] m_Lunit :=
  has_mk 3 A0 sc_Lunit S_Lunit fun f cdv A outer sh H hr =>
    (ss_one (s_ret (e_callH h_Lpick (hr.mono (by decide)) (by rfl) (a_cons (e_var (pv 0)) (a_cons (e_callH0 h_Lunits (hr.mono (by decide)) (by rfl)) a_nil)))))
abbrev s_Lfree : Stmt := topS 90
abbrev N_Lfree : List Str := ["draw", "prime", "found"]
theorem sc_Lfree : FnScope N_Lfree ["draw", "prime"] (defScope s_Lfree) := ⟨rfl, rfl, rfl, by decide +kernel, rfl, by decide +kernel, by decide +kernel⟩
def S_Lfree : DS := (dSeq (dSet 2 (dCallN 1 m_Lsome_quad (dCons (dVar 0) dNil)))
    (dRet (dIf (dTru (dOp vNe (dOp vMod (dCall cInt (dCons (dCallN 1 m_Lsize (dCons (dVar 2) dNil)) dNil)) (dPeek 1)) (dCst (.int 0)))) (dVar 2) (dCallN 1 m_Lunit (dCons (dVar 0) dNil)))))
def m_Lfree : List D → Cm D := fnD 3 S_Lfree
theorem ok_Lfree (A0 : DefAt K mg "_law_free" s_Lfree ["draw", "prime"]) (h_Lsome_quad : Has P w K mg base 4 "_law_some_quad" ["draw"] m_Lsome_quad) (h_Lsize : Has P w K mg base 1 "_law_size" ["quad"] m_Lsize) (h_Lunit : Has P w K mg base 4 "_law_unit" ["draw"] m_Lunit) (n_int : mg "int" = none) : Has P w K mg base 5 "_law_free" ["draw", "prime"] m_Lfree :=
  has_mk 4 A0 sc_Lfree S_Lfree fun f cdv A outer sh H hr =>
    (ss_cons (s_set (i := 2) sc_Lfree.nd rfl (by first | exact .inl rfl | exact .inr rfl) (e_callH h_Lsome_quad (hr.mono (by decide)) (by rfl) (a_cons (e_var (pv 0)) a_nil)))
      (ss_one (s_ret (e_ifExp (t_cmp (o_ne hr.units) (e_b (e_op o_mod (e_b (e_callTy k_int (by rfl) n_int (by decide +kernel) (ab_cons (e_b (e_callH h_Lsize (hr.mono (by decide)) (by rfl) (a_cons (e_var (pv 2)) a_nil))) ab_nil))) (b_var (pv 1)))) (e_b e_int) (nomark _)) (e_var (pv 2)) (e_callH h_Lunit (hr.mono (by decide)) (by rfl) (a_cons (e_var (pv 0)) a_nil))))))
abbrev s_Lright : Stmt := topS 91
abbrev N_Lright : List Str := ["draw", "prime", "one", "other", "free", "due", "both", "a", "b", "c", "d", "first", "late"]
theorem sc_Lright : FnScope N_Lright ["draw"] (defScope s_Lright) := ⟨rfl, rfl, rfl, by decide +kernel, rfl, by decide +kernel, by decide +kernel⟩
def S_Lright : DS := (dSeq (dSet 1 (dCallN 1 m_Ltree_prime (dCons (dVar 0) dNil)))
    (dSeq (dPar3 2 3 4 (dCallN 2 m_Llined (dCons (dVar 0) (dCons (dVar 1) dNil))) (dCallN 2 m_Llined (dCons (dVar 0) (dCons (dVar 1) dNil))) (dCallN 2 m_Lfree (dCons (dVar 0) (dCons (dVar 1) dNil))))
    (dSeq (dSet 5 (dCallN 2 m_line_of (dCons (dVar 1) (dCons (dVar 2) dNil))))
    (dSeq (dIfS (dOrT (dTru (dOp vNe (dPeek 5) (dCallN 2 m_Lline (dCons (dVar 1) (dCons (dVar 2) dNil))))) (dOrT (dTru (dOp vNe (dCallN 2 m_line_of (dCons (dVar 1) (dCons (dCallN 2 m_product (dCons (dVar 4) (dCons (dVar 2) dNil))) dNil))) (dCallN 3 m_led_line (dCons (dVar 1) (dCons (dVar 4) (dCons (dVar 5) dNil)))))) (dTru (dOp vNe (dCallN 2 m_line_of (dCons (dVar 1) (dCons (dCallN 2 m_product (dCons (dVar 2) (dCons (dVar 4) dNil))) dNil))) (dPeek 5))))) (dRet (dCst (.bool false))) dSkip)
    (dSeq (dSet 6 (dCallN 2 m_product (dCons (dVar 2) (dCons (dVar 3) dNil))))
    (dSeq (dIfS (dOrT (dTru (dOp vNe (dCallN 2 m_is_divided (dCons (dVar 6) (dCons (dVar 1) dNil))) (dIf (dTru (dOp vNe (dPeek 6) (dTupF (dCons (dCst (.int 0)) (dCons (dCst (.int 0)) (dCons (dCst (.int 0)) (dCons (dCst (.int 0)) dNil))))))) (dOp vEq (dOp vMod (dCall cInt (dCons (dOp vIx (dCallN 1 m_Lcontent (dCons (dVar 6) dNil)) (dCst (.int 0))) dNil)) (dPeek 1)) (dCst (.int 0))) (dCst (.bool true))))) (dAndT (dNotT (dTru (dCallN 2 m_is_divided (dCons (dVar 6) (dCons (dVar 1) dNil))))) (dTru (dOp vNe (dCallN 2 m_line_of (dCons (dVar 1) (dCons (dVar 6) dNil))) (dPeek 5))))) (dRet (dCst (.bool false))) dSkip)
    (dSeq (dAsg (dCallN 2 m_table_of (dCons (dVar 1) (dCons (dVar 2) dNil))) (gTp 4 (gsCons (gN 7) (gsCons (gN 8) (gsCons (gN 9) (gsCons (gN 10) gsNil))))))
    (dSeq (dIfS (dTru (dOp vNe (dCallN 2 m_table_of (dCons (dVar 1) (dCons (dCallN 1 m_back (dCons (dVar 2) dNil)) dNil))) (dTupF (dCons (dVar 10) (dCons (dOp vMod (dCall cInt (dCons (dOp vSub (dCst (.int 0)) (dPeek 8)) dNil)) (dPeek 1)) (dCons (dOp vMod (dCall cInt (dCons (dOp vSub (dCst (.int 0)) (dPeek 9)) dNil)) (dPeek 1)) (dCons (dVar 7) dNil))))))) (dRet (dCst (.bool false))) dSkip)
    (dSeq (dSet 11 (dCallN 2 m_left_of (dCons (dVar 2) (dCons (dVar 1) dNil))))
    (dSeq (dIfS (dOrT (dTru (dOp vNe (dCallN 2 m_first_of_line (dCons (dVar 1) (dCons (dVar 5) dNil))) (dPeek 11))) (dOrT (dTru (dOp vNe (dCallN 2 m_line_of (dCons (dVar 1) (dCons (dVar 11) dNil))) (dPeek 5))) (dTru (dOp vNe (dCallN 2 m_line_of (dCons (dVar 1) (dCons (dCallN 1 m_back (dCons (dVar 2) dNil)) dNil))) (dCallN 2 m_Lline (dCons (dVar 1) (dCons (dCallN 1 m_Lback (dCons (dVar 2) dNil)) dNil))))))) (dRet (dCst (.bool false))) dSkip)
    (dSeq (dSet 12 (dCallN 2 m_product (dCons (dCallN 1 m_back (dCons (dVar 2) dNil)) (dCons (dVar 3) dNil))))
    (dRet (dAndV (dOp vEq (dCallN 2 m_is_divided (dCons (dVar 12) (dCons (dVar 1) dNil))) (dOp vEq (dCallN 2 m_line_of (dCons (dVar 1) (dCons (dVar 2) dNil))) (dCallN 2 m_line_of (dCons (dVar 1) (dCons (dVar 3) dNil))))) (dOp vEq (dCallN 3 m_led_line (dCons (dVar 1) (dCons (dCallN 2 m_product (dCons (dVar 4) (dCons (dVar 4) dNil))) (dCons (dVar 5) dNil)))) (dCallN 3 m_led_line (dCons (dVar 1) (dCons (dVar 4) (dCons (dCallN 3 m_led_line (dCons (dVar 1) (dCons (dVar 4) (dCons (dVar 5) dNil)))) dNil))))))))))))))))))
def m_Lright : List D → Cm D := fnD 13 S_Lright
theorem ok_Lright (A0 : DefAt K mg "_law_right" s_Lright ["draw"]) (h_Ltree_prime : Has P w K mg base 4 "_law_tree_prime" ["draw"] m_Ltree_prime) (h_Llined : Has P w K mg base 4 "_law_lined" ["draw", "prime"] m_Llined) (h_Lfree : Has P w K mg base 5 "_law_free" ["draw", "prime"] m_Lfree) (h_line_of : Has P w K mg base 5 "line_of" ["prime", "quad"] m_line_of) (h_Lline : Has P w K mg base 3 "_law_line" ["prime", "quad"] m_Lline) (h_product : Has P w K mg base 5 "product" ["one", "other"] m_product) (h_led_line : Has P w K mg base 5 "led_line" ["prime", "quad", "line"] m_led_line) (h_is_divided : Has P w K mg base 5 "is_divided" ["quad", "prime"] m_is_divided) (h_Lcontent : Has P w K mg base 2 "_law_content" ["quad"] m_Lcontent) (h_table_of : Has P w K mg base 5 "table_of" ["prime", "quad"] m_table_of) (h_back : Has P w K mg base 5 "back" ["quad"] m_back) (h_left_of : Has P w K mg base 6 "left_of" ["quad", "prime"] m_left_of) (h_first_of_line : Has P w K mg base 5 "first_of_line" ["prime", "line"] m_first_of_line) (h_Lback : Has P w K mg base 1 "_law_back" ["quad"] m_Lback) (n_int : mg "int" = none) : Has P w K mg base 7 "_law_right" ["draw"] m_Lright :=
  has_mk 6 A0 sc_Lright S_Lright fun f cdv A outer sh H hr =>
    (ss_cons (s_set (i := 1) sc_Lright.nd rfl (by first | exact .inl rfl | exact .inr rfl) (e_callH h_Ltree_prime (hr.mono (by decide)) (by rfl) (a_cons (e_var (pv 0)) a_nil)))
      (ss_cons (s_par3 (i := 2) (j := 3) (l := 4) rfl sc_Lright.nd rfl rfl rfl (by decide) (by decide) (by decide) rfl rfl rfl (e_callH h_Llined (hr.mono (by decide)) (by rfl) (a_cons (e_var (pv 0)) (a_cons (e_var (pv 1)) a_nil))) (e_callH h_Llined (hr.mono (by decide)) (by rfl) (a_cons (e_var (pv 0)) (a_cons (e_var (pv 1)) a_nil))) (e_callH h_Lfree (hr.mono (by decide)) (by rfl) (a_cons (e_var (pv 0)) (a_cons (e_var (pv 1)) a_nil))) (by rfl))
      (ss_cons (s_set (i := 5) sc_Lright.nd rfl (by first | exact .inl rfl | exact .inr rfl) (e_callH h_line_of (hr.mono (by decide)) (by rfl) (a_cons (e_var (pv 1)) (a_cons (e_var (pv 2)) a_nil))))
      (ss_cons (s_if (PW.pt (w_or (t_cmp (o_ne hr.units) (b_var (pv 5)) (e_b (e_callH h_Lline (hr.mono (by decide)) (by rfl) (a_cons (e_var (pv 1)) (a_cons (e_var (pv 2)) a_nil)))) (nomark _)) (w_or (t_cmp (o_ne hr.units) (e_b (e_callH h_line_of (hr.mono (by decide)) (by rfl) (a_cons (e_var (pv 1)) (a_cons (e_callH h_product (hr.mono (by decide)) (by rfl) (a_cons (e_var (pv 4)) (a_cons (e_var (pv 2)) a_nil))) a_nil)))) (e_b (e_callH h_led_line (hr.mono (by decide)) (by rfl) (a_cons (e_var (pv 1)) (a_cons (e_var (pv 4)) (a_cons (e_var (pv 5)) a_nil))))) (nomark _)) (w_or1 (t_cmp (o_ne hr.units) (e_b (e_callH h_line_of (hr.mono (by decide)) (by rfl) (a_cons (e_var (pv 1)) (a_cons (e_callH h_product (hr.mono (by decide)) (by rfl) (a_cons (e_var (pv 2)) (a_cons (e_var (pv 4)) a_nil))) a_nil)))) (b_var (pv 5)) (nomark _)))))) (ss_one (s_ret e_bl)) ss_nil)
      (ss_cons (s_set (i := 6) sc_Lright.nd rfl (by first | exact .inl rfl | exact .inr rfl) (e_callH h_product (hr.mono (by decide)) (by rfl) (a_cons (e_var (pv 2)) (a_cons (e_var (pv 3)) a_nil))))
      (ss_cons (s_if (PW.pt (w_or (t_cmp (o_ne hr.units) (e_b (e_callH h_is_divided (hr.mono (by decide)) (by rfl) (a_cons (e_var (pv 6)) (a_cons (e_var (pv 1)) a_nil)))) (e_b (e_ifExp (t_cmp (o_ne hr.units) (b_var (pv 6)) (e_b (e_tup (a_cons e_int (a_cons e_int (a_cons e_int (a_cons e_int a_nil)))))) (nomark _)) (e_cmp (o_eq hr.units) (e_b (e_op o_mod (e_b (e_callTy k_int (by rfl) n_int (by decide +kernel) (ab_cons (e_b (e_ix x_ix (e_b (e_callH h_Lcontent (hr.mono (by decide)) (by rfl) (a_cons (e_var (pv 6)) a_nil))) (e_b e_int) (fun _ _ => rfl))) ab_nil))) (b_var (pv 1)))) (e_b e_int) (nomark _)) e_bl)) (nomark _)) (w_or1 (PW.pt (w_and (t_not (t_val (e_callH h_is_divided (hr.mono (by decide)) (by rfl) (a_cons (e_var (pv 6)) (a_cons (e_var (pv 1)) a_nil))))) (w_and1 (t_cmp (o_ne hr.units) (e_b (e_callH h_line_of (hr.mono (by decide)) (by rfl) (a_cons (e_var (pv 1)) (a_cons (e_var (pv 6)) a_nil)))) (b_var (pv 5)) (nomark _)))))))) (ss_one (s_ret e_bl)) ss_nil)
      (ss_cons (s_asg (e_callH h_table_of (hr.mono (by decide)) (by rfl) (a_cons (e_var (pv 1)) (a_cons (e_var (pv 2)) a_nil))) (g_tup (n := 4) rfl (gs_cons (g_name (i := 7) sc_Lright.nd rfl (by first | exact .inl rfl | exact .inr rfl)) (gs_cons (g_name (i := 8) sc_Lright.nd rfl (by first | exact .inl rfl | exact .inr rfl)) (gs_cons (g_name (i := 9) sc_Lright.nd rfl (by first | exact .inl rfl | exact .inr rfl)) (gs_cons (g_name (i := 10) sc_Lright.nd rfl (by first | exact .inl rfl | exact .inr rfl)) gs_nil))))))
      (ss_cons (s_if (t_cmp (o_ne hr.units) (e_b (e_callH h_table_of (hr.mono (by decide)) (by rfl) (a_cons (e_var (pv 1)) (a_cons (e_callH h_back (hr.mono (by decide)) (by rfl) (a_cons (e_var (pv 2)) a_nil)) a_nil)))) (e_b (e_tup (a_cons (e_var (pv 10)) (a_cons (e_op o_mod (e_b (e_callTy k_int (by rfl) n_int (by decide +kernel) (ab_cons (e_b (e_op o_sub (e_b e_int) (b_var (pv 8)))) ab_nil))) (b_var (pv 1))) (a_cons (e_op o_mod (e_b (e_callTy k_int (by rfl) n_int (by decide +kernel) (ab_cons (e_b (e_op o_sub (e_b e_int) (b_var (pv 9)))) ab_nil))) (b_var (pv 1))) (a_cons (e_var (pv 7)) a_nil)))))) (nomark _)) (ss_one (s_ret e_bl)) ss_nil)
      (ss_cons (s_set (i := 11) sc_Lright.nd rfl (by first | exact .inl rfl | exact .inr rfl) (e_callH h_left_of (hr.mono (by decide)) (by rfl) (a_cons (e_var (pv 2)) (a_cons (e_var (pv 1)) a_nil))))
      (ss_cons (s_if (PW.pt (w_or (t_cmp (o_ne hr.units) (e_b (e_callH h_first_of_line (hr.mono (by decide)) (by rfl) (a_cons (e_var (pv 1)) (a_cons (e_var (pv 5)) a_nil)))) (b_var (pv 11)) (nomark _)) (w_or (t_cmp (o_ne hr.units) (e_b (e_callH h_line_of (hr.mono (by decide)) (by rfl) (a_cons (e_var (pv 1)) (a_cons (e_var (pv 11)) a_nil)))) (b_var (pv 5)) (nomark _)) (w_or1 (t_cmp (o_ne hr.units) (e_b (e_callH h_line_of (hr.mono (by decide)) (by rfl) (a_cons (e_var (pv 1)) (a_cons (e_callH h_back (hr.mono (by decide)) (by rfl) (a_cons (e_var (pv 2)) a_nil)) a_nil)))) (e_b (e_callH h_Lline (hr.mono (by decide)) (by rfl) (a_cons (e_var (pv 1)) (a_cons (e_callH h_Lback (hr.mono (by decide)) (by rfl) (a_cons (e_var (pv 2)) a_nil)) a_nil)))) (nomark _)))))) (ss_one (s_ret e_bl)) ss_nil)
      (ss_cons (s_set (i := 12) sc_Lright.nd rfl (by first | exact .inl rfl | exact .inr rfl) (e_callH h_product (hr.mono (by decide)) (by rfl) (a_cons (e_callH h_back (hr.mono (by decide)) (by rfl) (a_cons (e_var (pv 2)) a_nil)) (a_cons (e_var (pv 3)) a_nil))))
      (ss_one (s_ret (e_and (e_cmp (o_eq hr.units) (e_b (e_callH h_is_divided (hr.mono (by decide)) (by rfl) (a_cons (e_var (pv 12)) (a_cons (e_var (pv 1)) a_nil)))) (e_b (e_cmp (o_eq hr.units) (e_b (e_callH h_line_of (hr.mono (by decide)) (by rfl) (a_cons (e_var (pv 1)) (a_cons (e_var (pv 2)) a_nil)))) (e_b (e_callH h_line_of (hr.mono (by decide)) (by rfl) (a_cons (e_var (pv 1)) (a_cons (e_var (pv 3)) a_nil)))) (nomark _))) (nomark _)) (e_one (e_cmp (o_eq hr.units) (e_b (e_callH h_led_line (hr.mono (by decide)) (by rfl) (a_cons (e_var (pv 1)) (a_cons (e_callH h_product (hr.mono (by decide)) (by rfl) (a_cons (e_var (pv 4)) (a_cons (e_var (pv 4)) a_nil))) (a_cons (e_var (pv 5)) a_nil))))) (e_b (e_callH h_led_line (hr.mono (by decide)) (by rfl) (a_cons (e_var (pv 1)) (a_cons (e_var (pv 4)) (a_cons (e_callH h_led_line (hr.mono (by decide)) (by rfl) (a_cons (e_var (pv 1)) (a_cons (e_var (pv 4)) (a_cons (e_var (pv 5)) a_nil)))) a_nil))))) (nomark _)))))))))))))))))
abbrev s_law : Stmt := topS 92
abbrev N_law : List Str := ["script", "draw", "lap"]
theorem sc_law : FnScope N_law ["script"] (defScope s_law) := ⟨rfl, rfl, rfl, by decide +kernel, rfl, by decide +kernel, by decide +kernel⟩
def B1_law : DS := (dIfS (dNotT (dTru (dCallN 1 m_Lright (dCons (dVar 1) dNil)))) (dRet (dCst (.bool false))) dSkip)
def S_law : DS := (dSeq (dFor (dRng1 (dCons (dOp vAdd (dCst (.int 4)) (dCall cMin2 (dCons (dCall cLen (dCons (dPeek 0) dNil)) (dCons (dCst (.int 9)) dNil)))) dNil)) (gN 2) B1_law)
    (dRet (dCst (.bool true))))
def env_law (ns : List Int) : Fs.Env := [.val (.list (ns.map .int)), .val drwT] ++ List.replicate 1 .no
theorem ok_law {fa : Addr} {fd : FuncData} (FF : Fun K "law" "law" s_law fa fd)
   (h_Lbegun : ∃ (fa : Addr) (fd : FuncData), FnOk P w K mg base CX0 1 fa fd ["script"] (spBegun K) ∧ mg "_law_begun" = some (.ref fa) ∧ PySem.W.keepIn K (.ref fa) = true ∧ L2.Binds K fd ["script"] [])
   (h_Lright : Has P w K mg base 7 "_law_right" ["draw"] m_Lright)
   (n_len : mg "len" = none)
   (n_min : mg "min" = none)
   (n_range : mg "range" = none) (math : ∀ ns : List Int, ns.length ≤ 63 → (S_law (env_law ns)).All (fun o => o = .rt (.bool true))) : FnOk P w K mg base CX0 8 fa fd ["script"] (spLaw K) := by
  obtain ⟨fb, fdb, FB, gb, kb, bbb⟩ := h_Lbegun
  refine FF.ok sc_law (fun vs H Q E h => ?_) (fun cdv A outer sh H vs Q E hr h => ?_)
  · obtain ⟨a, ns, rfl, _⟩ := h
    rfl
  · obtain ⟨a, ns, rfl, hS, hlen, q⟩ := h
    refine ⟨_, pss_cons (ps_set (i := 1) sc_law.nd rfl (.inl rfl) (pe_call (FB.mono (by decide)) hr (by rfl) gb kb bbb .nil pass0 (pa_cons (pv 0) pa_nil)))
      (ss_cons (s_for PassesOwn.never rfl (i_rng1 (by rfl) n_range (a_cons (e_op o_add (e_b e_int) (e_b (e_callB (k_min2 rfl) (by rfl) n_min (by decide +kernel) (ab_cons (e_b (e_callB k_len (by rfl) n_len (by decide +kernel) (ab_cons (b_var (pv 0)) ab_nil))) (ab_cons (e_b e_int) ab_nil))))) a_nil)) (g_name (i := 2) sc_law.nd rfl (by first | exact .inl rfl | exact .inr rfl)) (ss_one (s_if (t_not (t_val (e_callH h_Lright (hr.mono (by decide)) (by rfl) (a_cons (e_var (pv 1)) a_nil)))) (ss_one (s_ret e_bl)) ss_nil)))
      (ss_one (s_ret e_bl))), ?_⟩
    refine ⟨.ref a, rfl, a, ns, rfl, hS, hlen, fun dr H' kp dk na nl nc => ?_⟩
    exact law_start (N := N_law) hS q (by rfl) kp dk na nl nc (math ns hlen)
end
theorem all_mk {l : PySem.W.OpenLaw} {w : World} {K : PySem.W.Frag} {h : Heap} {mg : Str → Option Value} {fa : Addr} (math : ∀ ns : List Int, ns.length ≤ 63 → (S_law (env_law ns)).All (fun o => o = .rt (.bool true))) (X : K.In h) (G : h.Ns mainGlobals mg) (hfa : mg "law" = some (.ref fa))
  {f0 : Addr} {od0 an0 : Option Addr} {sl0 : Array (Option Value)} {oc0 kV0 dc0 pm0 cd0 ct0 : Value}
  {f1 : Addr} {od1 an1 : Option Addr} {sl1 : Array (Option Value)} {oc1 kV1 dc1 pm1 cd1 ct1 : Value}
  {f2 : Addr} {od2 an2 : Option Addr} {sl2 : Array (Option Value)} {oc2 kV2 dc2 pm2 cd2 ct2 : Value}
  {f3 : Addr} {od3 an3 : Option Addr} {sl3 : Array (Option Value)} {oc3 kV3 dc3 pm3 cd3 ct3 : Value}
  {f4 : Addr} {od4 an4 : Option Addr} {sl4 : Array (Option Value)} {oc4 kV4 dc4 pm4 cd4 ct4 : Value}
  {f5 : Addr} {od5 an5 : Option Addr} {sl5 : Array (Option Value)} {oc5 kV5 dc5 pm5 cd5 ct5 : Value}
  {f6 : Addr} {od6 an6 : Option Addr} {sl6 : Array (Option Value)} {oc6 kV6 dc6 pm6 cd6 ct6 : Value}
  {f7 : Addr} {od7 an7 : Option Addr} {sl7 : Array (Option Value)} {oc7 kV7 dc7 pm7 cd7 ct7 : Value}
  {f8 : Addr} {od8 an8 : Option Addr} {sl8 : Array (Option Value)} {oc8 kV8 dc8 pm8 cd8 ct8 : Value}
  {f9 : Addr} {od9 an9 : Option Addr} {sl9 : Array (Option Value)} {oc9 kV9 dc9 pm9 cd9 ct9 : Value}
  {f10 : Addr} {od10 an10 : Option Addr} {sl10 : Array (Option Value)} {oc10 kV10 dc10 pm10 cd10 ct10 : Value}
  {f11 : Addr} {od11 an11 : Option Addr} {sl11 : Array (Option Value)} {oc11 kV11 dc11 pm11 cd11 ct11 : Value}
  {f12 : Addr} {od12 an12 : Option Addr} {sl12 : Array (Option Value)} {oc12 kV12 dc12 pm12 cd12 ct12 : Value}
  {f13 : Addr} {od13 an13 : Option Addr} {sl13 : Array (Option Value)} {oc13 kV13 dc13 pm13 cd13 ct13 : Value}
  {f14 : Addr} {od14 an14 : Option Addr} {sl14 : Array (Option Value)} {oc14 kV14 dc14 pm14 cd14 ct14 : Value}
  {f15 : Addr} {od15 an15 : Option Addr} {sl15 : Array (Option Value)} {oc15 kV15 dc15 pm15 cd15 ct15 : Value}
  {f16 : Addr} {od16 an16 : Option Addr} {sl16 : Array (Option Value)} {oc16 kV16 dc16 pm16 cd16 ct16 : Value}
  {f17 : Addr} {od17 an17 : Option Addr} {sl17 : Array (Option Value)} {oc17 kV17 dc17 pm17 cd17 ct17 : Value}
  {f18 : Addr} {od18 an18 : Option Addr} {sl18 : Array (Option Value)} {oc18 kV18 dc18 pm18 cd18 ct18 : Value}
  {f19 : Addr} {od19 an19 : Option Addr} {sl19 : Array (Option Value)} {oc19 kV19 dc19 pm19 cd19 ct19 : Value}
  {f20 : Addr} {od20 an20 : Option Addr} {sl20 : Array (Option Value)} {oc20 kV20 dc20 pm20 cd20 ct20 : Value}
  {f21 : Addr} {od21 an21 : Option Addr} {sl21 : Array (Option Value)} {oc21 kV21 dc21 pm21 cd21 ct21 : Value}
  {f22 : Addr} {od22 an22 : Option Addr} {sl22 : Array (Option Value)} {oc22 kV22 dc22 pm22 cd22 ct22 : Value}
  {f23 : Addr} {od23 an23 : Option Addr} {sl23 : Array (Option Value)} {oc23 kV23 dc23 pm23 cd23 ct23 : Value}
  {f24 : Addr} {od24 an24 : Option Addr} {sl24 : Array (Option Value)} {oc24 kV24 dc24 pm24 cd24 ct24 : Value}
  {f25 : Addr} {od25 an25 : Option Addr} {sl25 : Array (Option Value)} {oc25 kV25 dc25 pm25 cd25 ct25 : Value}
  {f26 : Addr} {od26 an26 : Option Addr} {sl26 : Array (Option Value)} {oc26 kV26 dc26 pm26 cd26 ct26 : Value}
  {f27 : Addr} {od27 an27 : Option Addr} {sl27 : Array (Option Value)} {oc27 kV27 dc27 pm27 cd27 ct27 : Value}
  {f28 : Addr} {od28 an28 : Option Addr} {sl28 : Array (Option Value)} {oc28 kV28 dc28 pm28 cd28 ct28 : Value}
  {f29 : Addr} {od29 an29 : Option Addr} {sl29 : Array (Option Value)} {oc29 kV29 dc29 pm29 cd29 ct29 : Value}
  {f30 : Addr} {od30 an30 : Option Addr} {sl30 : Array (Option Value)} {oc30 kV30 dc30 pm30 cd30 ct30 : Value}
  {f31 : Addr} {od31 an31 : Option Addr} {sl31 : Array (Option Value)} {oc31 kV31 dc31 pm31 cd31 ct31 : Value}
  {f32 : Addr} {od32 an32 : Option Addr} {sl32 : Array (Option Value)} {oc32 kV32 dc32 pm32 cd32 ct32 : Value}
  {f33 : Addr} {od33 an33 : Option Addr} {sl33 : Array (Option Value)} {oc33 kV33 dc33 pm33 cd33 ct33 : Value}
  {f34 : Addr} {od34 an34 : Option Addr} {sl34 : Array (Option Value)} {oc34 kV34 dc34 pm34 cd34 ct34 : Value}
  {f35 : Addr} {od35 an35 : Option Addr} {sl35 : Array (Option Value)} {oc35 kV35 dc35 pm35 cd35 ct35 : Value}
  {f36 : Addr} {od36 an36 : Option Addr} {sl36 : Array (Option Value)} {oc36 kV36 dc36 pm36 cd36 ct36 : Value}
  {f37 : Addr} {od37 an37 : Option Addr} {sl37 : Array (Option Value)} {oc37 kV37 dc37 pm37 cd37 ct37 : Value}
  {f38 : Addr} {od38 an38 : Option Addr} {sl38 : Array (Option Value)} {oc38 kV38 dc38 pm38 cd38 ct38 : Value}
  {f39 : Addr} {od39 an39 : Option Addr} {sl39 : Array (Option Value)} {oc39 kV39 dc39 pm39 cd39 ct39 : Value}
  {f40 : Addr} {od40 an40 : Option Addr} {sl40 : Array (Option Value)} {oc40 kV40 dc40 pm40 cd40 ct40 : Value}
  {f41 : Addr} {od41 an41 : Option Addr} {sl41 : Array (Option Value)} {oc41 kV41 dc41 pm41 cd41 ct41 : Value}
  {f42 : Addr} {od42 an42 : Option Addr} {sl42 : Array (Option Value)} {oc42 kV42 dc42 pm42 cd42 ct42 : Value}
  {f43 : Addr} {od43 an43 : Option Addr} {sl43 : Array (Option Value)} {oc43 kV43 dc43 pm43 cd43 ct43 : Value}
  {f44 : Addr} {od44 an44 : Option Addr} {sl44 : Array (Option Value)} {oc44 kV44 dc44 pm44 cd44 ct44 : Value}
  {f45 : Addr} {od45 an45 : Option Addr} {sl45 : Array (Option Value)} {oc45 kV45 dc45 pm45 cd45 ct45 : Value}
  {f46 : Addr} {od46 an46 : Option Addr} {sl46 : Array (Option Value)} {oc46 kV46 dc46 pm46 cd46 ct46 : Value}
  {f47 : Addr} {od47 an47 : Option Addr} {sl47 : Array (Option Value)} {oc47 kV47 dc47 pm47 cd47 ct47 : Value}
  {f48 : Addr} {od48 an48 : Option Addr} {sl48 : Array (Option Value)} {oc48 kV48 dc48 pm48 cd48 ct48 : Value}
  {f49 : Addr} {od49 an49 : Option Addr} {sl49 : Array (Option Value)} {oc49 kV49 dc49 pm49 cd49 ct49 : Value}
  {f50 : Addr} {od50 an50 : Option Addr} {sl50 : Array (Option Value)} {oc50 kV50 dc50 pm50 cd50 ct50 : Value}
  {f51 : Addr} {od51 an51 : Option Addr} {sl51 : Array (Option Value)} {oc51 kV51 dc51 pm51 cd51 ct51 : Value}
  {f52 : Addr} {od52 an52 : Option Addr} {sl52 : Array (Option Value)} {oc52 kV52 dc52 pm52 cd52 ct52 : Value}
  {f53 : Addr} {od53 an53 : Option Addr} {sl53 : Array (Option Value)} {oc53 kV53 dc53 pm53 cd53 ct53 : Value}
  {f54 : Addr} {od54 an54 : Option Addr} {sl54 : Array (Option Value)} {oc54 kV54 dc54 pm54 cd54 ct54 : Value}
  {f55 : Addr} {od55 an55 : Option Addr} {sl55 : Array (Option Value)} {oc55 kV55 dc55 pm55 cd55 ct55 : Value}
  {f56 : Addr} {od56 an56 : Option Addr} {sl56 : Array (Option Value)} {oc56 kV56 dc56 pm56 cd56 ct56 : Value}
  {f57 : Addr} {od57 an57 : Option Addr} {sl57 : Array (Option Value)} {oc57 kV57 dc57 pm57 cd57 ct57 : Value}
  {f58 : Addr} {od58 an58 : Option Addr} {sl58 : Array (Option Value)} {oc58 kV58 dc58 pm58 cd58 ct58 : Value}
  {f59 : Addr} {od59 an59 : Option Addr} {sl59 : Array (Option Value)} {oc59 kV59 dc59 pm59 cd59 ct59 : Value}
  {f60 : Addr} {od60 an60 : Option Addr} {sl60 : Array (Option Value)} {oc60 kV60 dc60 pm60 cd60 ct60 : Value}
  {f61 : Addr} {od61 an61 : Option Addr} {sl61 : Array (Option Value)} {oc61 kV61 dc61 pm61 cd61 ct61 : Value}
  {f62 : Addr} {od62 an62 : Option Addr} {sl62 : Array (Option Value)} {oc62 kV62 dc62 pm62 cd62 ct62 : Value}
  {f63 : Addr} {od63 an63 : Option Addr} {sl63 : Array (Option Value)} {oc63 kV63 dc63 pm63 cd63 ct63 : Value}
  {f64 : Addr} {od64 an64 : Option Addr} {sl64 : Array (Option Value)} {oc64 kV64 dc64 pm64 cd64 ct64 : Value}
  {f65 : Addr} {od65 an65 : Option Addr} {sl65 : Array (Option Value)} {oc65 kV65 dc65 pm65 cd65 ct65 : Value}
  {f66 : Addr} {od66 an66 : Option Addr} {sl66 : Array (Option Value)} {oc66 kV66 dc66 pm66 cd66 ct66 : Value}
  {f67 : Addr} {od67 an67 : Option Addr} {sl67 : Array (Option Value)} {oc67 kV67 dc67 pm67 cd67 ct67 : Value}
  {f68 : Addr} {od68 an68 : Option Addr} {sl68 : Array (Option Value)} {oc68 kV68 dc68 pm68 cd68 ct68 : Value}
  {t_FIFTY_DIGITS : Tok}
  {t_MOST_LISTED : Tok}
  {t_MOST_PRIME : Tok}
  {p_NOUGHT : Addr} {oc_NOUGHT : Option Addr} {is_NOUGHT : Array Value} {in_NOUGHT : Nat} {sl_NOUGHT : Array (Option Value)}
  {t_PARTS : Tok}
  {p_UNITS : Addr} {oc_UNITS : Option Addr} {is_UNITS : Array Value} {in_UNITS : Nat} {sl_UNITS : Array (Option Value)}
  {p_UNITS_0 : Addr} {oc_UNITS_0 : Option Addr} {is_UNITS_0 : Array Value} {in_UNITS_0 : Nat} {sl_UNITS_0 : Array (Option Value)}
  {p_UNITS_1 : Addr} {oc_UNITS_1 : Option Addr} {is_UNITS_1 : Array Value} {in_UNITS_1 : Nat} {sl_UNITS_1 : Array (Option Value)}
  {p_UNITS_2 : Addr} {oc_UNITS_2 : Option Addr} {is_UNITS_2 : Array Value} {in_UNITS_2 : Nat} {sl_UNITS_2 : Array (Option Value)}
  {p_UNITS_3 : Addr} {oc_UNITS_3 : Option Addr} {is_UNITS_3 : Array Value} {in_UNITS_3 : Nat} {sl_UNITS_3 : Array (Option Value)}
  {p_UNITS_4 : Addr} {oc_UNITS_4 : Option Addr} {is_UNITS_4 : Array Value} {in_UNITS_4 : Nat} {sl_UNITS_4 : Array (Option Value)}
  {p_UNITS_5 : Addr} {oc_UNITS_5 : Option Addr} {is_UNITS_5 : Array Value} {in_UNITS_5 : Nat} {sl_UNITS_5 : Array (Option Value)}
  {p_UNITS_6 : Addr} {oc_UNITS_6 : Option Addr} {is_UNITS_6 : Array Value} {in_UNITS_6 : Nat} {sl_UNITS_6 : Array (Option Value)}
  {p_UNITS_7 : Addr} {oc_UNITS_7 : Option Addr} {is_UNITS_7 : Array Value} {in_UNITS_7 : Nat} {sl_UNITS_7 : Array (Option Value)}
  {p_UNITS_8 : Addr} {oc_UNITS_8 : Option Addr} {is_UNITS_8 : Array Value} {in_UNITS_8 : Nat} {sl_UNITS_8 : Array (Option Value)}
  {p_UNITS_9 : Addr} {oc_UNITS_9 : Option Addr} {is_UNITS_9 : Array Value} {in_UNITS_9 : Nat} {sl_UNITS_9 : Array (Option Value)}
  {p_UNITS_10 : Addr} {oc_UNITS_10 : Option Addr} {is_UNITS_10 : Array Value} {in_UNITS_10 : Nat} {sl_UNITS_10 : Array (Option Value)}
  {p_UNITS_11 : Addr} {oc_UNITS_11 : Option Addr} {is_UNITS_11 : Array Value} {in_UNITS_11 : Nat} {sl_UNITS_11 : Array (Option Value)}
  {p_UNITS_12 : Addr} {oc_UNITS_12 : Option Addr} {is_UNITS_12 : Array Value} {in_UNITS_12 : Nat} {sl_UNITS_12 : Array (Option Value)}
  {p_UNITS_13 : Addr} {oc_UNITS_13 : Option Addr} {is_UNITS_13 : Array Value} {in_UNITS_13 : Nat} {sl_UNITS_13 : Array (Option Value)}
  {p_UNITS_14 : Addr} {oc_UNITS_14 : Option Addr} {is_UNITS_14 : Array Value} {in_UNITS_14 : Nat} {sl_UNITS_14 : Array (Option Value)}
  {p_UNITS_15 : Addr} {oc_UNITS_15 : Option Addr} {is_UNITS_15 : Array Value} {in_UNITS_15 : Nat} {sl_UNITS_15 : Array (Option Value)}
  {p_UNITS_16 : Addr} {oc_UNITS_16 : Option Addr} {is_UNITS_16 : Array Value} {in_UNITS_16 : Nat} {sl_UNITS_16 : Array (Option Value)}
  {p_UNITS_17 : Addr} {oc_UNITS_17 : Option Addr} {is_UNITS_17 : Array Value} {in_UNITS_17 : Nat} {sl_UNITS_17 : Array (Option Value)}
  {p_UNITS_18 : Addr} {oc_UNITS_18 : Option Addr} {is_UNITS_18 : Array Value} {in_UNITS_18 : Nat} {sl_UNITS_18 : Array (Option Value)}
  {p_UNITS_19 : Addr} {oc_UNITS_19 : Option Addr} {is_UNITS_19 : Array Value} {in_UNITS_19 : Nat} {sl_UNITS_19 : Array (Option Value)}
  {p_UNITS_20 : Addr} {oc_UNITS_20 : Option Addr} {is_UNITS_20 : Array Value} {in_UNITS_20 : Nat} {sl_UNITS_20 : Array (Option Value)}
  {p_UNITS_21 : Addr} {oc_UNITS_21 : Option Addr} {is_UNITS_21 : Array Value} {in_UNITS_21 : Nat} {sl_UNITS_21 : Array (Option Value)}
  {p_UNITS_22 : Addr} {oc_UNITS_22 : Option Addr} {is_UNITS_22 : Array Value} {in_UNITS_22 : Nat} {sl_UNITS_22 : Array (Option Value)}
  {p_UNITS_23 : Addr} {oc_UNITS_23 : Option Addr} {is_UNITS_23 : Array Value} {in_UNITS_23 : Nat} {sl_UNITS_23 : Array (Option Value)}
  (a0 : PySem.W.nsIn K mainGlobals "_law_begun" = some (some (.ref f0))) (l0 : K.lookup f0 = some ⟨oc0, od0, .func (PySem.W.fnOf "_law_begun" "_law_begun" (defArgs s_Lbegun) (defBody s_Lbegun) (defScope s_Lbegun) .none kV0 dc0 pm0 an0 cd0 ct0), sl0⟩) (c0 : PySem.W.codeIn K cd0 "_law_begun" = true) (k0 : PySem.W.keepIn K (.ref f0) = true)
  (a1 : PySem.W.nsIn K mainGlobals "_law_mixed" = some (some (.ref f1))) (l1 : K.lookup f1 = some ⟨oc1, od1, .func (PySem.W.fnOf "_law_mixed" "_law_mixed" (defArgs s_Lmixed) (defBody s_Lmixed) (defScope s_Lmixed) .none kV1 dc1 pm1 an1 cd1 ct1), sl1⟩) (c1 : PySem.W.codeIn K cd1 "_law_mixed" = true) (k1 : PySem.W.keepIn K (.ref f1) = true)
  (a2 : PySem.W.nsIn K mainGlobals "_law_take" = some (some (.ref f2))) (l2 : K.lookup f2 = some ⟨oc2, od2, .func (PySem.W.fnOf "_law_take" "_law_take" (defArgs s_Ltake) (defBody s_Ltake) (defScope s_Ltake) .none kV2 dc2 pm2 an2 cd2 ct2), sl2⟩) (c2 : PySem.W.codeIn K cd2 "_law_take" = true) (k2 : PySem.W.keepIn K (.ref f2) = true)
  (a3 : PySem.W.nsIn K mainGlobals "is_number" = some (some (.ref f3))) (l3 : K.lookup f3 = some ⟨oc3, od3, .func (PySem.W.fnOf "is_number" "is_number" (defArgs s_is_number) (defBody s_is_number) (defScope s_is_number) .none kV3 dc3 pm3 an3 cd3 ct3), sl3⟩) (c3 : PySem.W.codeIn K cd3 "is_number" = true) (k3 : PySem.W.keepIn K (.ref f3) = true)
  (a4 : PySem.W.nsIn K mainGlobals "is_short" = some (some (.ref f4))) (l4 : K.lookup f4 = some ⟨oc4, od4, .func (PySem.W.fnOf "is_short" "is_short" (defArgs s_is_short) (defBody s_is_short) (defScope s_is_short) .none kV4 dc4 pm4 an4 cd4 ct4), sl4⟩) (c4 : PySem.W.codeIn K cd4 "is_short" = true) (k4 : PySem.W.keepIn K (.ref f4) = true)
  (a5 : PySem.W.nsIn K mainGlobals "is_quad_of" = some (some (.ref f5))) (l5 : K.lookup f5 = some ⟨oc5, od5, .func (PySem.W.fnOf "is_quad_of" "is_quad_of" (defArgs s_is_quad_of) (defBody s_is_quad_of) (defScope s_is_quad_of) .none kV5 dc5 pm5 an5 cd5 ct5), sl5⟩) (c5 : PySem.W.codeIn K cd5 "is_quad_of" = true) (k5 : PySem.W.keepIn K (.ref f5) = true)
  (a6 : PySem.W.nsIn K mainGlobals "need_quad" = some (some (.ref f6))) (l6 : K.lookup f6 = some ⟨oc6, od6, .func (PySem.W.fnOf "need_quad" "need_quad" (defArgs s_need_quad) (defBody s_need_quad) (defScope s_need_quad) .none kV6 dc6 pm6 an6 cd6 ct6), sl6⟩) (c6 : PySem.W.codeIn K cd6 "need_quad" = true) (k6 : PySem.W.keepIn K (.ref f6) = true)
  (a7 : PySem.W.nsIn K mainGlobals "need_two" = some (some (.ref f7))) (l7 : K.lookup f7 = some ⟨oc7, od7, .func (PySem.W.fnOf "need_two" "need_two" (defArgs s_need_two) (defBody s_need_two) (defScope s_need_two) .none kV7 dc7 pm7 an7 cd7 ct7), sl7⟩) (c7 : PySem.W.codeIn K cd7 "need_two" = true) (k7 : PySem.W.keepIn K (.ref f7) = true)
  (a8 : PySem.W.nsIn K mainGlobals "short_quad" = some (some (.ref f8))) (l8 : K.lookup f8 = some ⟨oc8, od8, .func (PySem.W.fnOf "short_quad" "short_quad" (defArgs s_short_quad) (defBody s_short_quad) (defScope s_short_quad) .none kV8 dc8 pm8 an8 cd8 ct8), sl8⟩) (c8 : PySem.W.codeIn K cd8 "short_quad" = true) (k8 : PySem.W.keepIn K (.ref f8) = true)
  (a9 : PySem.W.nsIn K mainGlobals "product_by" = some (some (.ref f9))) (l9 : K.lookup f9 = some ⟨oc9, od9, .func (PySem.W.fnOf "product_by" "product_by" (defArgs s_product_by) (defBody s_product_by) (defScope s_product_by) .none kV9 dc9 pm9 an9 cd9 ct9), sl9⟩) (c9 : PySem.W.codeIn K cd9 "product_by" = true) (k9 : PySem.W.keepIn K (.ref f9) = true)
  (a10 : PySem.W.nsIn K mainGlobals "back_by" = some (some (.ref f10))) (l10 : K.lookup f10 = some ⟨oc10, od10, .func (PySem.W.fnOf "back_by" "back_by" (defArgs s_back_by) (defBody s_back_by) (defScope s_back_by) .none kV10 dc10 pm10 an10 cd10 ct10), sl10⟩) (c10 : PySem.W.codeIn K cd10 "back_by" = true) (k10 : PySem.W.keepIn K (.ref f10) = true)
  (a11 : PySem.W.nsIn K mainGlobals "size_by" = some (some (.ref f11))) (l11 : K.lookup f11 = some ⟨oc11, od11, .func (PySem.W.fnOf "size_by" "size_by" (defArgs s_size_by) (defBody s_size_by) (defScope s_size_by) .none kV11 dc11 pm11 an11 cd11 ct11), sl11⟩) (c11 : PySem.W.codeIn K cd11 "size_by" = true) (k11 : PySem.W.keepIn K (.ref f11) = true)
  (a12 : PySem.W.nsIn K mainGlobals "plus_by" = some (some (.ref f12))) (l12 : K.lookup f12 = some ⟨oc12, od12, .func (PySem.W.fnOf "plus_by" "plus_by" (defArgs s_plus_by) (defBody s_plus_by) (defScope s_plus_by) .none kV12 dc12 pm12 an12 cd12 ct12), sl12⟩) (c12 : PySem.W.codeIn K cd12 "plus_by" = true) (k12 : PySem.W.keepIn K (.ref f12) = true)
  (a13 : PySem.W.nsIn K mainGlobals "minus_by" = some (some (.ref f13))) (l13 : K.lookup f13 = some ⟨oc13, od13, .func (PySem.W.fnOf "minus_by" "minus_by" (defArgs s_minus_by) (defBody s_minus_by) (defScope s_minus_by) .none kV13 dc13 pm13 an13 cd13 ct13), sl13⟩) (c13 : PySem.W.codeIn K cd13 "minus_by" = true) (k13 : PySem.W.keepIn K (.ref f13) = true)
  (a14 : PySem.W.nsIn K mainGlobals "times_number" = some (some (.ref f14))) (l14 : K.lookup f14 = some ⟨oc14, od14, .func (PySem.W.fnOf "times_number" "times_number" (defArgs s_times_number) (defBody s_times_number) (defScope s_times_number) .none kV14 dc14 pm14 an14 cd14 ct14), sl14⟩) (c14 : PySem.W.codeIn K cd14 "times_number" = true) (k14 : PySem.W.keepIn K (.ref f14) = true)
  (a15 : PySem.W.nsIn K mainGlobals "content_by" = some (some (.ref f15))) (l15 : K.lookup f15 = some ⟨oc15, od15, .func (PySem.W.fnOf "content_by" "content_by" (defArgs s_content_by) (defBody s_content_by) (defScope s_content_by) .none kV15 dc15 pm15 an15 cd15 ct15), sl15⟩) (c15 : PySem.W.codeIn K cd15 "content_by" = true) (k15 : PySem.W.keepIn K (.ref f15) = true)
  (a16 : PySem.W.nsIn K mainGlobals "product" = some (some (.ref f16))) (l16 : K.lookup f16 = some ⟨oc16, od16, .func (PySem.W.fnOf "product" "product" (defArgs s_product) (defBody s_product) (defScope s_product) .none kV16 dc16 pm16 an16 cd16 ct16), sl16⟩) (c16 : PySem.W.codeIn K cd16 "product" = true) (k16 : PySem.W.keepIn K (.ref f16) = true)
  (a17 : PySem.W.nsIn K mainGlobals "back" = some (some (.ref f17))) (l17 : K.lookup f17 = some ⟨oc17, od17, .func (PySem.W.fnOf "back" "back" (defArgs s_back) (defBody s_back) (defScope s_back) .none kV17 dc17 pm17 an17 cd17 ct17), sl17⟩) (c17 : PySem.W.codeIn K cd17 "back" = true) (k17 : PySem.W.keepIn K (.ref f17) = true)
  (a18 : PySem.W.nsIn K mainGlobals "nearest" = some (some (.ref f18))) (l18 : K.lookup f18 = some ⟨oc18, od18, .func (PySem.W.fnOf "nearest" "nearest" (defArgs s_nearest) (defBody s_nearest) (defScope s_nearest) .none kV18 dc18 pm18 an18 cd18 ct18), sl18⟩) (c18 : PySem.W.codeIn K cd18 "nearest" = true) (k18 : PySem.W.keepIn K (.ref f18) = true)
  (a19 : PySem.W.nsIn K mainGlobals "near_quads" = some (some (.ref f19))) (l19 : K.lookup f19 = some ⟨oc19, od19, .func (PySem.W.fnOf "near_quads" "near_quads" (defArgs s_near_quads) (defBody s_near_quads) (defScope s_near_quads) .none kV19 dc19 pm19 an19 cd19 ct19), sl19⟩) (c19 : PySem.W.codeIn K cd19 "near_quads" = true) (k19 : PySem.W.keepIn K (.ref f19) = true)
  (a20 : PySem.W.nsIn K mainGlobals "left_by" = some (some (.ref f20))) (l20 : K.lookup f20 = some ⟨oc20, od20, .func (PySem.W.fnOf "left_by" "left_by" (defArgs s_left_by) (defBody s_left_by) (defScope s_left_by) .none kV20 dc20 pm20 an20 cd20 ct20), sl20⟩) (c20 : PySem.W.codeIn K cd20 "left_by" = true) (k20 : PySem.W.keepIn K (.ref f20) = true)
  (a21 : PySem.W.nsIn K mainGlobals "first_by" = some (some (.ref f21))) (l21 : K.lookup f21 = some ⟨oc21, od21, .func (PySem.W.fnOf "first_by" "first_by" (defArgs s_first_by) (defBody s_first_by) (defScope s_first_by) .none kV21 dc21 pm21 an21 cd21 ct21), sl21⟩) (c21 : PySem.W.codeIn K cd21 "first_by" = true) (k21 : PySem.W.keepIn K (.ref f21) = true)
  (a22 : PySem.W.nsIn K mainGlobals "left_common" = some (some (.ref f22))) (l22 : K.lookup f22 = some ⟨oc22, od22, .func (PySem.W.fnOf "left_common" "left_common" (defArgs s_left_common) (defBody s_left_common) (defScope s_left_common) .none kV22 dc22 pm22 an22 cd22 ct22), sl22⟩) (c22 : PySem.W.codeIn K cd22 "left_common" = true) (k22 : PySem.W.keepIn K (.ref f22) = true)
  (a23 : PySem.W.nsIn K mainGlobals "is_prime" = some (some (.ref f23))) (l23 : K.lookup f23 = some ⟨oc23, od23, .func (PySem.W.fnOf "is_prime" "is_prime" (defArgs s_is_prime) (defBody s_is_prime) (defScope s_is_prime) .none kV23 dc23 pm23 an23 cd23 ct23), sl23⟩) (c23 : PySem.W.codeIn K cd23 "is_prime" = true) (k23 : PySem.W.keepIn K (.ref f23) = true)
  (a24 : PySem.W.nsIn K mainGlobals "need_prime" = some (some (.ref f24))) (l24 : K.lookup f24 = some ⟨oc24, od24, .func (PySem.W.fnOf "need_prime" "need_prime" (defArgs s_need_prime) (defBody s_need_prime) (defScope s_need_prime) .none kV24 dc24 pm24 an24 cd24 ct24), sl24⟩) (c24 : PySem.W.codeIn K cd24 "need_prime" = true) (k24 : PySem.W.keepIn K (.ref f24) = true)
  (a25 : PySem.W.nsIn K mainGlobals "root_of" = some (some (.ref f25))) (l25 : K.lookup f25 = some ⟨oc25, od25, .func (PySem.W.fnOf "root_of" "root_of" (defArgs s_root_of) (defBody s_root_of) (defScope s_root_of) .none kV25 dc25 pm25 an25 cd25 ct25), sl25⟩) (c25 : PySem.W.codeIn K cd25 "root_of" = true) (k25 : PySem.W.keepIn K (.ref f25) = true)
  (a26 : PySem.W.nsIn K mainGlobals "squares_of" = some (some (.ref f26))) (l26 : K.lookup f26 = some ⟨oc26, od26, .func (PySem.W.fnOf "squares_of" "squares_of" (defArgs s_squares_of) (defBody s_squares_of) (defScope s_squares_of) .none kV26 dc26 pm26 an26 cd26 ct26), sl26⟩) (c26 : PySem.W.codeIn K cd26 "squares_of" = true) (k26 : PySem.W.keepIn K (.ref f26) = true)
  (a27 : PySem.W.nsIn K mainGlobals "left_by_prime" = some (some (.ref f27))) (l27 : K.lookup f27 = some ⟨oc27, od27, .func (PySem.W.fnOf "left_by_prime" "left_by_prime" (defArgs s_left_by_prime) (defBody s_left_by_prime) (defScope s_left_by_prime) .none kV27 dc27 pm27 an27 cd27 ct27), sl27⟩) (c27 : PySem.W.codeIn K cd27 "left_by_prime" = true) (k27 : PySem.W.keepIn K (.ref f27) = true)
  (a28 : PySem.W.nsIn K mainGlobals "is_divided_by" = some (some (.ref f28))) (l28 : K.lookup f28 = some ⟨oc28, od28, .func (PySem.W.fnOf "is_divided_by" "is_divided_by" (defArgs s_is_divided_by) (defBody s_is_divided_by) (defScope s_is_divided_by) .none kV28 dc28 pm28 an28 cd28 ct28), sl28⟩) (c28 : PySem.W.codeIn K cd28 "is_divided_by" = true) (k28 : PySem.W.keepIn K (.ref f28) = true)
  (a29 : PySem.W.nsIn K mainGlobals "need_left" = some (some (.ref f29))) (l29 : K.lookup f29 = some ⟨oc29, od29, .func (PySem.W.fnOf "need_left" "need_left" (defArgs s_need_left) (defBody s_need_left) (defScope s_need_left) .none kV29 dc29 pm29 an29 cd29 ct29), sl29⟩) (c29 : PySem.W.codeIn K cd29 "need_left" = true) (k29 : PySem.W.keepIn K (.ref f29) = true)
  (a30 : PySem.W.nsIn K mainGlobals "left_of" = some (some (.ref f30))) (l30 : K.lookup f30 = some ⟨oc30, od30, .func (PySem.W.fnOf "left_of" "left_of" (defArgs s_left_of) (defBody s_left_of) (defScope s_left_of) .none kV30 dc30 pm30 an30 cd30 ct30), sl30⟩) (c30 : PySem.W.codeIn K cd30 "left_of" = true) (k30 : PySem.W.keepIn K (.ref f30) = true)
  (a31 : PySem.W.nsIn K mainGlobals "is_divided" = some (some (.ref f31))) (l31 : K.lookup f31 = some ⟨oc31, od31, .func (PySem.W.fnOf "is_divided" "is_divided" (defArgs s_is_divided) (defBody s_is_divided) (defScope s_is_divided) .none kV31 dc31 pm31 an31 cd31 ct31), sl31⟩) (c31 : PySem.W.codeIn K cd31 "is_divided" = true) (k31 : PySem.W.keepIn K (.ref f31) = true)
  (a32 : PySem.W.nsIn K mainGlobals "need_odd" = some (some (.ref f32))) (l32 : K.lookup f32 = some ⟨oc32, od32, .func (PySem.W.fnOf "need_odd" "need_odd" (defArgs s_need_odd) (defBody s_need_odd) (defScope s_need_odd) .none kV32 dc32 pm32 an32 cd32 ct32), sl32⟩) (c32 : PySem.W.codeIn K cd32 "need_odd" = true) (k32 : PySem.W.keepIn K (.ref f32) = true)
  (a33 : PySem.W.nsIn K mainGlobals "marks_by" = some (some (.ref f33))) (l33 : K.lookup f33 = some ⟨oc33, od33, .func (PySem.W.fnOf "marks_by" "marks_by" (defArgs s_marks_by) (defBody s_marks_by) (defScope s_marks_by) .none kV33 dc33 pm33 an33 cd33 ct33), sl33⟩) (c33 : PySem.W.codeIn K cd33 "marks_by" = true) (k33 : PySem.W.keepIn K (.ref f33) = true)
  (a34 : PySem.W.nsIn K mainGlobals "half_by" = some (some (.ref f34))) (l34 : K.lookup f34 = some ⟨oc34, od34, .func (PySem.W.fnOf "half_by" "half_by" (defArgs s_half_by) (defBody s_half_by) (defScope s_half_by) .none kV34 dc34 pm34 an34 cd34 ct34), sl34⟩) (c34 : PySem.W.codeIn K cd34 "half_by" = true) (k34 : PySem.W.keepIn K (.ref f34) = true)
  (a35 : PySem.W.nsIn K mainGlobals "table_by" = some (some (.ref f35))) (l35 : K.lookup f35 = some ⟨oc35, od35, .func (PySem.W.fnOf "table_by" "table_by" (defArgs s_table_by) (defBody s_table_by) (defScope s_table_by) .none kV35 dc35 pm35 an35 cd35 ct35), sl35⟩) (c35 : PySem.W.codeIn K cd35 "table_by" = true) (k35 : PySem.W.keepIn K (.ref f35) = true)
  (a36 : PySem.W.nsIn K mainGlobals "table_of" = some (some (.ref f36))) (l36 : K.lookup f36 = some ⟨oc36, od36, .func (PySem.W.fnOf "table_of" "table_of" (defArgs s_table_of) (defBody s_table_of) (defScope s_table_of) .none kV36 dc36 pm36 an36 cd36 ct36), sl36⟩) (c36 : PySem.W.codeIn K cd36 "table_of" = true) (k36 : PySem.W.keepIn K (.ref f36) = true)
  (a37 : PySem.W.nsIn K mainGlobals "least_line" = some (some (.ref f37))) (l37 : K.lookup f37 = some ⟨oc37, od37, .func (PySem.W.fnOf "least_line" "least_line" (defArgs s_least_line) (defBody s_least_line) (defScope s_least_line) .none kV37 dc37 pm37 an37 cd37 ct37), sl37⟩) (c37 : PySem.W.codeIn K cd37 "least_line" = true) (k37 : PySem.W.keepIn K (.ref f37) = true)
  (a38 : PySem.W.nsIn K mainGlobals "is_line_of" = some (some (.ref f38))) (l38 : K.lookup f38 = some ⟨oc38, od38, .func (PySem.W.fnOf "is_line_of" "is_line_of" (defArgs s_is_line_of) (defBody s_is_line_of) (defScope s_is_line_of) .none kV38 dc38 pm38 an38 cd38 ct38), sl38⟩) (c38 : PySem.W.codeIn K cd38 "is_line_of" = true) (k38 : PySem.W.keepIn K (.ref f38) = true)
  (a39 : PySem.W.nsIn K mainGlobals "line_by" = some (some (.ref f39))) (l39 : K.lookup f39 = some ⟨oc39, od39, .func (PySem.W.fnOf "line_by" "line_by" (defArgs s_line_by) (defBody s_line_by) (defScope s_line_by) .none kV39 dc39 pm39 an39 cd39 ct39), sl39⟩) (c39 : PySem.W.codeIn K cd39 "line_by" = true) (k39 : PySem.W.keepIn K (.ref f39) = true)
  (a40 : PySem.W.nsIn K mainGlobals "led_by" = some (some (.ref f40))) (l40 : K.lookup f40 = some ⟨oc40, od40, .func (PySem.W.fnOf "led_by" "led_by" (defArgs s_led_by) (defBody s_led_by) (defScope s_led_by) .none kV40 dc40 pm40 an40 cd40 ct40), sl40⟩) (c40 : PySem.W.codeIn K cd40 "led_by" = true) (k40 : PySem.W.keepIn K (.ref f40) = true)
  (a41 : PySem.W.nsIn K mainGlobals "need_line" = some (some (.ref f41))) (l41 : K.lookup f41 = some ⟨oc41, od41, .func (PySem.W.fnOf "need_line" "need_line" (defArgs s_need_line) (defBody s_need_line) (defScope s_need_line) .none kV41 dc41 pm41 an41 cd41 ct41), sl41⟩) (c41 : PySem.W.codeIn K cd41 "need_line" = true) (k41 : PySem.W.keepIn K (.ref f41) = true)
  (a42 : PySem.W.nsIn K mainGlobals "has_line" = some (some (.ref f42))) (l42 : K.lookup f42 = some ⟨oc42, od42, .func (PySem.W.fnOf "has_line" "has_line" (defArgs s_has_line) (defBody s_has_line) (defScope s_has_line) .none kV42 dc42 pm42 an42 cd42 ct42), sl42⟩) (c42 : PySem.W.codeIn K cd42 "has_line" = true) (k42 : PySem.W.keepIn K (.ref f42) = true)
  (a43 : PySem.W.nsIn K mainGlobals "line_of" = some (some (.ref f43))) (l43 : K.lookup f43 = some ⟨oc43, od43, .func (PySem.W.fnOf "line_of" "line_of" (defArgs s_line_of) (defBody s_line_of) (defScope s_line_of) .none kV43 dc43 pm43 an43 cd43 ct43), sl43⟩) (c43 : PySem.W.codeIn K cd43 "line_of" = true) (k43 : PySem.W.keepIn K (.ref f43) = true)
  (a44 : PySem.W.nsIn K mainGlobals "led_line" = some (some (.ref f44))) (l44 : K.lookup f44 = some ⟨oc44, od44, .func (PySem.W.fnOf "led_line" "led_line" (defArgs s_led_line) (defBody s_led_line) (defScope s_led_line) .none kV44 dc44 pm44 an44 cd44 ct44), sl44⟩) (c44 : PySem.W.codeIn K cd44 "led_line" = true) (k44 : PySem.W.keepIn K (.ref f44) = true)
  (a45 : PySem.W.nsIn K mainGlobals "_law_pick" = some (some (.ref f45))) (l45 : K.lookup f45 = some ⟨oc45, od45, .func (PySem.W.fnOf "_law_pick" "_law_pick" (defArgs s_Lpick) (defBody s_Lpick) (defScope s_Lpick) .none kV45 dc45 pm45 an45 cd45 ct45), sl45⟩) (c45 : PySem.W.codeIn K cd45 "_law_pick" = true) (k45 : PySem.W.keepIn K (.ref f45) = true)
  (a46 : PySem.W.nsIn K mainGlobals "_law_back" = some (some (.ref f46))) (l46 : K.lookup f46 = some ⟨oc46, od46, .func (PySem.W.fnOf "_law_back" "_law_back" (defArgs s_Lback) (defBody s_Lback) (defScope s_Lback) .none kV46 dc46 pm46 an46 cd46 ct46), sl46⟩) (c46 : PySem.W.codeIn K cd46 "_law_back" = true) (k46 : PySem.W.keepIn K (.ref f46) = true)
  (a47 : PySem.W.nsIn K mainGlobals "_law_size" = some (some (.ref f47))) (l47 : K.lookup f47 = some ⟨oc47, od47, .func (PySem.W.fnOf "_law_size" "_law_size" (defArgs s_Lsize) (defBody s_Lsize) (defScope s_Lsize) .none kV47 dc47 pm47 an47 cd47 ct47), sl47⟩) (c47 : PySem.W.codeIn K cd47 "_law_size" = true) (k47 : PySem.W.keepIn K (.ref f47) = true)
  (a48 : PySem.W.nsIn K mainGlobals "_law_rows" = some (some (.ref f48))) (l48 : K.lookup f48 = some ⟨oc48, od48, .func (PySem.W.fnOf "_law_rows" "_law_rows" (defArgs s_Lrows) (defBody s_Lrows) (defScope s_Lrows) .none kV48 dc48 pm48 an48 cd48 ct48), sl48⟩) (c48 : PySem.W.codeIn K cd48 "_law_rows" = true) (k48 : PySem.W.keepIn K (.ref f48) = true)
  (a49 : PySem.W.nsIn K mainGlobals "_law_common" = some (some (.ref f49))) (l49 : K.lookup f49 = some ⟨oc49, od49, .func (PySem.W.fnOf "_law_common" "_law_common" (defArgs s_Lcommon) (defBody s_Lcommon) (defScope s_Lcommon) .none kV49 dc49 pm49 an49 cd49 ct49), sl49⟩) (c49 : PySem.W.codeIn K cd49 "_law_common" = true) (k49 : PySem.W.keepIn K (.ref f49) = true)
  (a50 : PySem.W.nsIn K mainGlobals "_law_content" = some (some (.ref f50))) (l50 : K.lookup f50 = some ⟨oc50, od50, .func (PySem.W.fnOf "_law_content" "_law_content" (defArgs s_Lcontent) (defBody s_Lcontent) (defScope s_Lcontent) .none kV50 dc50 pm50 an50 cd50 ct50), sl50⟩) (c50 : PySem.W.codeIn K cd50 "_law_content" = true) (k50 : PySem.W.keepIn K (.ref f50) = true)
  (a51 : PySem.W.nsIn K mainGlobals "_law_quad" = some (some (.ref f51))) (l51 : K.lookup f51 = some ⟨oc51, od51, .func (PySem.W.fnOf "_law_quad" "_law_quad" (defArgs s_Lquad) (defBody s_Lquad) (defScope s_Lquad) .none kV51 dc51 pm51 an51 cd51 ct51), sl51⟩) (c51 : PySem.W.codeIn K cd51 "_law_quad" = true) (k51 : PySem.W.keepIn K (.ref f51) = true)
  (a52 : PySem.W.nsIn K mainGlobals "_law_some_quad" = some (some (.ref f52))) (l52 : K.lookup f52 = some ⟨oc52, od52, .func (PySem.W.fnOf "_law_some_quad" "_law_some_quad" (defArgs s_Lsome_quad) (defBody s_Lsome_quad) (defScope s_Lsome_quad) .none kV52 dc52 pm52 an52 cd52 ct52), sl52⟩) (c52 : PySem.W.codeIn K cd52 "_law_some_quad" = true) (k52 : PySem.W.keepIn K (.ref f52) = true)
  (a53 : PySem.W.nsIn K mainGlobals "_law_tree_prime" = some (some (.ref f53))) (l53 : K.lookup f53 = some ⟨oc53, od53, .func (PySem.W.fnOf "_law_tree_prime" "_law_tree_prime" (defArgs s_Ltree_prime) (defBody s_Ltree_prime) (defScope s_Ltree_prime) .none kV53 dc53 pm53 an53 cd53 ct53), sl53⟩) (c53 : PySem.W.codeIn K cd53 "_law_tree_prime" = true) (k53 : PySem.W.keepIn K (.ref f53) = true)
  (a54 : PySem.W.nsIn K mainGlobals "_law_marks" = some (some (.ref f54))) (l54 : K.lookup f54 = some ⟨oc54, od54, .func (PySem.W.fnOf "_law_marks" "_law_marks" (defArgs s_Lmarks) (defBody s_Lmarks) (defScope s_Lmarks) .none kV54 dc54 pm54 an54 cd54 ct54), sl54⟩) (c54 : PySem.W.codeIn K cd54 "_law_marks" = true) (k54 : PySem.W.keepIn K (.ref f54) = true)
  (a55 : PySem.W.nsIn K mainGlobals "_law_half" = some (some (.ref f55))) (l55 : K.lookup f55 = some ⟨oc55, od55, .func (PySem.W.fnOf "_law_half" "_law_half" (defArgs s_Lhalf) (defBody s_Lhalf) (defScope s_Lhalf) .none kV55 dc55 pm55 an55 cd55 ct55), sl55⟩) (c55 : PySem.W.codeIn K cd55 "_law_half" = true) (k55 : PySem.W.keepIn K (.ref f55) = true)
  (a56 : PySem.W.nsIn K mainGlobals "_law_table" = some (some (.ref f56))) (l56 : K.lookup f56 = some ⟨oc56, od56, .func (PySem.W.fnOf "_law_table" "_law_table" (defArgs s_Ltable) (defBody s_Ltable) (defScope s_Ltable) .none kV56 dc56 pm56 an56 cd56 ct56), sl56⟩) (c56 : PySem.W.codeIn K cd56 "_law_table" = true) (k56 : PySem.W.keepIn K (.ref f56) = true)
  (a57 : PySem.W.nsIn K mainGlobals "_law_line_of_column" = some (some (.ref f57))) (l57 : K.lookup f57 = some ⟨oc57, od57, .func (PySem.W.fnOf "_law_line_of_column" "_law_line_of_column" (defArgs s_Lline_of_column) (defBody s_Lline_of_column) (defScope s_Lline_of_column) .none kV57 dc57 pm57 an57 cd57 ct57), sl57⟩) (c57 : PySem.W.codeIn K cd57 "_law_line_of_column" = true) (k57 : PySem.W.keepIn K (.ref f57) = true)
  (a58 : PySem.W.nsIn K mainGlobals "_law_line" = some (some (.ref f58))) (l58 : K.lookup f58 = some ⟨oc58, od58, .func (PySem.W.fnOf "_law_line" "_law_line" (defArgs s_Lline) (defBody s_Lline) (defScope s_Lline) .none kV58 dc58 pm58 an58 cd58 ct58), sl58⟩) (c58 : PySem.W.codeIn K cd58 "_law_line" = true) (k58 : PySem.W.keepIn K (.ref f58) = true)
  (a59 : PySem.W.nsIn K mainGlobals "_law_has_line" = some (some (.ref f59))) (l59 : K.lookup f59 = some ⟨oc59, od59, .func (PySem.W.fnOf "_law_has_line" "_law_has_line" (defArgs s_Lhas_line) (defBody s_Lhas_line) (defScope s_Lhas_line) .none kV59 dc59 pm59 an59 cd59 ct59), sl59⟩) (c59 : PySem.W.codeIn K cd59 "_law_has_line" = true) (k59 : PySem.W.keepIn K (.ref f59) = true)
  (a60 : PySem.W.nsIn K mainGlobals "_law_lined" = some (some (.ref f60))) (l60 : K.lookup f60 = some ⟨oc60, od60, .func (PySem.W.fnOf "_law_lined" "_law_lined" (defArgs s_Llined) (defBody s_Llined) (defScope s_Llined) .none kV60 dc60 pm60 an60 cd60 ct60), sl60⟩) (c60 : PySem.W.codeIn K cd60 "_law_lined" = true) (k60 : PySem.W.keepIn K (.ref f60) = true)
  (a61 : PySem.W.nsIn K mainGlobals "quads_of" = some (some (.ref f61))) (l61 : K.lookup f61 = some ⟨oc61, od61, .func (PySem.W.fnOf "quads_of" "quads_of" (defArgs s_quads_of) (defBody s_quads_of) (defScope s_quads_of) .none kV61 dc61 pm61 an61 cd61 ct61), sl61⟩) (c61 : PySem.W.codeIn K cd61 "quads_of" = true) (k61 : PySem.W.keepIn K (.ref f61) = true)
  (a62 : PySem.W.nsIn K mainGlobals "firsts_by" = some (some (.ref f62))) (l62 : K.lookup f62 = some ⟨oc62, od62, .func (PySem.W.fnOf "firsts_by" "firsts_by" (defArgs s_firsts_by) (defBody s_firsts_by) (defScope s_firsts_by) .none kV62 dc62 pm62 an62 cd62 ct62), sl62⟩) (c62 : PySem.W.codeIn K cd62 "firsts_by" = true) (k62 : PySem.W.keepIn K (.ref f62) = true)
  (a63 : PySem.W.nsIn K mainGlobals "first_of_line" = some (some (.ref f63))) (l63 : K.lookup f63 = some ⟨oc63, od63, .func (PySem.W.fnOf "first_of_line" "first_of_line" (defArgs s_first_of_line) (defBody s_first_of_line) (defScope s_first_of_line) .none kV63 dc63 pm63 an63 cd63 ct63), sl63⟩) (c63 : PySem.W.codeIn K cd63 "first_of_line" = true) (k63 : PySem.W.keepIn K (.ref f63) = true)
  (a64 : PySem.W.nsIn K mainGlobals "_law_units" = some (some (.ref f64))) (l64 : K.lookup f64 = some ⟨oc64, od64, .func (PySem.W.fnOf "_law_units" "_law_units" (defArgs s_Lunits) (defBody s_Lunits) (defScope s_Lunits) .none kV64 dc64 pm64 an64 cd64 ct64), sl64⟩) (c64 : PySem.W.codeIn K cd64 "_law_units" = true) (k64 : PySem.W.keepIn K (.ref f64) = true)
  (a65 : PySem.W.nsIn K mainGlobals "_law_unit" = some (some (.ref f65))) (l65 : K.lookup f65 = some ⟨oc65, od65, .func (PySem.W.fnOf "_law_unit" "_law_unit" (defArgs s_Lunit) (defBody s_Lunit) (defScope s_Lunit) .none kV65 dc65 pm65 an65 cd65 ct65), sl65⟩) (c65 : PySem.W.codeIn K cd65 "_law_unit" = true) (k65 : PySem.W.keepIn K (.ref f65) = true)
  (a66 : PySem.W.nsIn K mainGlobals "_law_free" = some (some (.ref f66))) (l66 : K.lookup f66 = some ⟨oc66, od66, .func (PySem.W.fnOf "_law_free" "_law_free" (defArgs s_Lfree) (defBody s_Lfree) (defScope s_Lfree) .none kV66 dc66 pm66 an66 cd66 ct66), sl66⟩) (c66 : PySem.W.codeIn K cd66 "_law_free" = true) (k66 : PySem.W.keepIn K (.ref f66) = true)
  (a67 : PySem.W.nsIn K mainGlobals "_law_right" = some (some (.ref f67))) (l67 : K.lookup f67 = some ⟨oc67, od67, .func (PySem.W.fnOf "_law_right" "_law_right" (defArgs s_Lright) (defBody s_Lright) (defScope s_Lright) .none kV67 dc67 pm67 an67 cd67 ct67), sl67⟩) (c67 : PySem.W.codeIn K cd67 "_law_right" = true) (k67 : PySem.W.keepIn K (.ref f67) = true)
  (a68 : PySem.W.nsIn K mainGlobals "law" = some (some (.ref f68))) (l68 : K.lookup f68 = some ⟨oc68, od68, .func (PySem.W.fnOf "law" "law" (defArgs s_law) (defBody s_law) (defScope s_law) .none kV68 dc68 pm68 an68 cd68 ct68), sl68⟩) (c68 : PySem.W.codeIn K cd68 "law" = true) (k68 : PySem.W.keepIn K (.ref f68) = true)
  (z_abs : PySem.W.nsIn K mainGlobals "abs" = some none)
  (z_all : PySem.W.nsIn K mainGlobals "all" = some none)
  (z_bool : PySem.W.nsIn K mainGlobals "bool" = some none)
  (z_int : PySem.W.nsIn K mainGlobals "int" = some none)
  (z_isinstance : PySem.W.nsIn K mainGlobals "isinstance" = some none)
  (z_len : PySem.W.nsIn K mainGlobals "len" = some none)
  (z_max : PySem.W.nsIn K mainGlobals "max" = some none)
  (z_min : PySem.W.nsIn K mainGlobals "min" = some none)
  (z_range : PySem.W.nsIn K mainGlobals "range" = some none)
  (z_set : PySem.W.nsIn K mainGlobals "set" = some none)
  (z_sorted : PySem.W.nsIn K mainGlobals "sorted" = some none)
  (z_sum : PySem.W.nsIn K mainGlobals "sum" = some none)
  (z_tuple : PySem.W.nsIn K mainGlobals "tuple" = some none)
  (z_zip : PySem.W.nsIn K mainGlobals "zip" = some none)
  (z_gcd : PySem.W.nsIn K mainGlobals "gcd" = some (some (.builtin "math.gcd")))
  (z_FIFTY_DIGITS : PySem.W.nsIn K mainGlobals "FIFTY_DIGITS" = some (some (.int 100000000000000000000000000000000000000000000000000 t_FIFTY_DIGITS)))
  (z_MOST_LISTED : PySem.W.nsIn K mainGlobals "MOST_LISTED" = some (some (.int 97 t_MOST_LISTED)))
  (z_MOST_PRIME : PySem.W.nsIn K mainGlobals "MOST_PRIME" = some (some (.int 1000 t_MOST_PRIME)))
  (z_NOUGHT : PySem.W.nsIn K mainGlobals "NOUGHT" = some (some (.ref p_NOUGHT))) (y_NOUGHT : K.lookup p_NOUGHT = some ⟨.type "tuple", oc_NOUGHT, .seq is_NOUGHT in_NOUGHT, sl_NOUGHT⟩) (x_NOUGHT : intsOf is_NOUGHT.toList = some [0, 0, 0, 0])
  (z_PARTS : PySem.W.nsIn K mainGlobals "PARTS" = some (some (.int 4 t_PARTS)))
  (z_UNITS : PySem.W.nsIn K mainGlobals "UNITS" = some (some (.ref p_UNITS))) (y_UNITS : K.lookup p_UNITS = some ⟨.type "tuple", oc_UNITS, .seq is_UNITS in_UNITS, sl_UNITS⟩) (x_UNITS : is_UNITS.toList = ([p_UNITS_0, p_UNITS_1, p_UNITS_2, p_UNITS_3, p_UNITS_4, p_UNITS_5, p_UNITS_6, p_UNITS_7, p_UNITS_8, p_UNITS_9, p_UNITS_10, p_UNITS_11, p_UNITS_12, p_UNITS_13, p_UNITS_14, p_UNITS_15, p_UNITS_16, p_UNITS_17, p_UNITS_18, p_UNITS_19, p_UNITS_20, p_UNITS_21, p_UNITS_22, p_UNITS_23] : List Addr).map Value.ref)
  (y_UNITS_0 : K.lookup p_UNITS_0 = some ⟨.type "tuple", oc_UNITS_0, .seq is_UNITS_0 in_UNITS_0, sl_UNITS_0⟩) (x_UNITS_0 : intsOf is_UNITS_0.toList = some [(-2), 0, 0, 0])
  (y_UNITS_1 : K.lookup p_UNITS_1 = some ⟨.type "tuple", oc_UNITS_1, .seq is_UNITS_1 in_UNITS_1, sl_UNITS_1⟩) (x_UNITS_1 : intsOf is_UNITS_1.toList = some [(-1), (-1), (-1), (-1)])
  (y_UNITS_2 : K.lookup p_UNITS_2 = some ⟨.type "tuple", oc_UNITS_2, .seq is_UNITS_2 in_UNITS_2, sl_UNITS_2⟩) (x_UNITS_2 : intsOf is_UNITS_2.toList = some [(-1), (-1), (-1), 1])
  (y_UNITS_3 : K.lookup p_UNITS_3 = some ⟨.type "tuple", oc_UNITS_3, .seq is_UNITS_3 in_UNITS_3, sl_UNITS_3⟩) (x_UNITS_3 : intsOf is_UNITS_3.toList = some [(-1), (-1), 1, (-1)])
  (y_UNITS_4 : K.lookup p_UNITS_4 = some ⟨.type "tuple", oc_UNITS_4, .seq is_UNITS_4 in_UNITS_4, sl_UNITS_4⟩) (x_UNITS_4 : intsOf is_UNITS_4.toList = some [(-1), (-1), 1, 1])
  (y_UNITS_5 : K.lookup p_UNITS_5 = some ⟨.type "tuple", oc_UNITS_5, .seq is_UNITS_5 in_UNITS_5, sl_UNITS_5⟩) (x_UNITS_5 : intsOf is_UNITS_5.toList = some [(-1), 1, (-1), (-1)])
  (y_UNITS_6 : K.lookup p_UNITS_6 = some ⟨.type "tuple", oc_UNITS_6, .seq is_UNITS_6 in_UNITS_6, sl_UNITS_6⟩) (x_UNITS_6 : intsOf is_UNITS_6.toList = some [(-1), 1, (-1), 1])
  (y_UNITS_7 : K.lookup p_UNITS_7 = some ⟨.type "tuple", oc_UNITS_7, .seq is_UNITS_7 in_UNITS_7, sl_UNITS_7⟩) (x_UNITS_7 : intsOf is_UNITS_7.toList = some [(-1), 1, 1, (-1)])
  (y_UNITS_8 : K.lookup p_UNITS_8 = some ⟨.type "tuple", oc_UNITS_8, .seq is_UNITS_8 in_UNITS_8, sl_UNITS_8⟩) (x_UNITS_8 : intsOf is_UNITS_8.toList = some [(-1), 1, 1, 1])
  (y_UNITS_9 : K.lookup p_UNITS_9 = some ⟨.type "tuple", oc_UNITS_9, .seq is_UNITS_9 in_UNITS_9, sl_UNITS_9⟩) (x_UNITS_9 : intsOf is_UNITS_9.toList = some [0, (-2), 0, 0])
  (y_UNITS_10 : K.lookup p_UNITS_10 = some ⟨.type "tuple", oc_UNITS_10, .seq is_UNITS_10 in_UNITS_10, sl_UNITS_10⟩) (x_UNITS_10 : intsOf is_UNITS_10.toList = some [0, 0, (-2), 0])
  (y_UNITS_11 : K.lookup p_UNITS_11 = some ⟨.type "tuple", oc_UNITS_11, .seq is_UNITS_11 in_UNITS_11, sl_UNITS_11⟩) (x_UNITS_11 : intsOf is_UNITS_11.toList = some [0, 0, 0, (-2)])
  (y_UNITS_12 : K.lookup p_UNITS_12 = some ⟨.type "tuple", oc_UNITS_12, .seq is_UNITS_12 in_UNITS_12, sl_UNITS_12⟩) (x_UNITS_12 : intsOf is_UNITS_12.toList = some [0, 0, 0, 2])
  (y_UNITS_13 : K.lookup p_UNITS_13 = some ⟨.type "tuple", oc_UNITS_13, .seq is_UNITS_13 in_UNITS_13, sl_UNITS_13⟩) (x_UNITS_13 : intsOf is_UNITS_13.toList = some [0, 0, 2, 0])
  (y_UNITS_14 : K.lookup p_UNITS_14 = some ⟨.type "tuple", oc_UNITS_14, .seq is_UNITS_14 in_UNITS_14, sl_UNITS_14⟩) (x_UNITS_14 : intsOf is_UNITS_14.toList = some [0, 2, 0, 0])
  (y_UNITS_15 : K.lookup p_UNITS_15 = some ⟨.type "tuple", oc_UNITS_15, .seq is_UNITS_15 in_UNITS_15, sl_UNITS_15⟩) (x_UNITS_15 : intsOf is_UNITS_15.toList = some [1, (-1), (-1), (-1)])
  (y_UNITS_16 : K.lookup p_UNITS_16 = some ⟨.type "tuple", oc_UNITS_16, .seq is_UNITS_16 in_UNITS_16, sl_UNITS_16⟩) (x_UNITS_16 : intsOf is_UNITS_16.toList = some [1, (-1), (-1), 1])
  (y_UNITS_17 : K.lookup p_UNITS_17 = some ⟨.type "tuple", oc_UNITS_17, .seq is_UNITS_17 in_UNITS_17, sl_UNITS_17⟩) (x_UNITS_17 : intsOf is_UNITS_17.toList = some [1, (-1), 1, (-1)])
  (y_UNITS_18 : K.lookup p_UNITS_18 = some ⟨.type "tuple", oc_UNITS_18, .seq is_UNITS_18 in_UNITS_18, sl_UNITS_18⟩) (x_UNITS_18 : intsOf is_UNITS_18.toList = some [1, (-1), 1, 1])
  (y_UNITS_19 : K.lookup p_UNITS_19 = some ⟨.type "tuple", oc_UNITS_19, .seq is_UNITS_19 in_UNITS_19, sl_UNITS_19⟩) (x_UNITS_19 : intsOf is_UNITS_19.toList = some [1, 1, (-1), (-1)])
  (y_UNITS_20 : K.lookup p_UNITS_20 = some ⟨.type "tuple", oc_UNITS_20, .seq is_UNITS_20 in_UNITS_20, sl_UNITS_20⟩) (x_UNITS_20 : intsOf is_UNITS_20.toList = some [1, 1, (-1), 1])
  (y_UNITS_21 : K.lookup p_UNITS_21 = some ⟨.type "tuple", oc_UNITS_21, .seq is_UNITS_21 in_UNITS_21, sl_UNITS_21⟩) (x_UNITS_21 : intsOf is_UNITS_21.toList = some [1, 1, 1, (-1)])
  (y_UNITS_22 : K.lookup p_UNITS_22 = some ⟨.type "tuple", oc_UNITS_22, .seq is_UNITS_22 in_UNITS_22, sl_UNITS_22⟩) (x_UNITS_22 : intsOf is_UNITS_22.toList = some [1, 1, 1, 1])
  (y_UNITS_23 : K.lookup p_UNITS_23 = some ⟨.type "tuple", oc_UNITS_23, .seq is_UNITS_23 in_UNITS_23, sl_UNITS_23⟩) (x_UNITS_23 : intsOf is_UNITS_23.toList = some [2, 0, 0, 0]) :
    ∃ fd : FuncData, (∀ (s : Shared) (v : Value), BindsTo s fd ⟨[v], []⟩ [("script", v)]) ∧ ∀ base : Heap, K.In base → base.Ns mainGlobals mg → FnOk l.prog w K mg base CX0 8 fa fd ["script"] (spLaw K) := by
  have e := hfa.symm.trans (PySem.W.mg_of X G a68)
  cases e
  have F0 := fun_mk (st := s_Lbegun) l0 c0 k0
  have A0 : DefAt K mg "_law_begun" s_Lbegun ["script"] := ⟨_, _, F0, F0.binds (ps := ["script"]) fun _ _ _ _ _ _ us hl => match us, hl with | [_], _ => rfl, PySem.W.mg_of X G a0⟩
  have F1 := fun_mk (st := s_Lmixed) l1 c1 k1
  have A1 : DefAt K mg "_law_mixed" s_Lmixed ["draw"] := ⟨_, _, F1, F1.binds (ps := ["draw"]) fun _ _ _ _ _ _ us hl => match us, hl with | [_], _ => rfl, PySem.W.mg_of X G a1⟩
  have F2 := fun_mk (st := s_Ltake) l2 c2 k2
  have A2 : DefAt K mg "_law_take" s_Ltake ["draw", "amount"] := ⟨_, _, F2, F2.binds (ps := ["draw", "amount"]) fun _ _ _ _ _ _ us hl => match us, hl with | [_, _], _ => rfl, PySem.W.mg_of X G a2⟩
  have F3 := fun_mk (st := s_is_number) l3 c3 k3
  have A3 : DefAt K mg "is_number" s_is_number ["thing"] := ⟨_, _, F3, F3.binds (ps := ["thing"]) fun _ _ _ _ _ _ us hl => match us, hl with | [_], _ => rfl, PySem.W.mg_of X G a3⟩
  have F4 := fun_mk (st := s_is_short) l4 c4 k4
  have A4 : DefAt K mg "is_short" s_is_short ["thing"] := ⟨_, _, F4, F4.binds (ps := ["thing"]) fun _ _ _ _ _ _ us hl => match us, hl with | [_], _ => rfl, PySem.W.mg_of X G a4⟩
  have F5 := fun_mk (st := s_is_quad_of) l5 c5 k5
  have A5 : DefAt K mg "is_quad_of" s_is_quad_of ["thing"] := ⟨_, _, F5, F5.binds (ps := ["thing"]) fun _ _ _ _ _ _ us hl => match us, hl with | [_], _ => rfl, PySem.W.mg_of X G a5⟩
  have F6 := fun_mk (st := s_need_quad) l6 c6 k6
  have A6 : DefAt K mg "need_quad" s_need_quad ["quad"] := ⟨_, _, F6, F6.binds (ps := ["quad"]) fun _ _ _ _ _ _ us hl => match us, hl with | [_], _ => rfl, PySem.W.mg_of X G a6⟩
  have F7 := fun_mk (st := s_need_two) l7 c7 k7
  have A7 : DefAt K mg "need_two" s_need_two ["one", "other"] := ⟨_, _, F7, F7.binds (ps := ["one", "other"]) fun _ _ _ _ _ _ us hl => match us, hl with | [_, _], _ => rfl, PySem.W.mg_of X G a7⟩
  have F8 := fun_mk (st := s_short_quad) l8 c8 k8
  have A8 : DefAt K mg "short_quad" s_short_quad ["quad"] := ⟨_, _, F8, F8.binds (ps := ["quad"]) fun _ _ _ _ _ _ us hl => match us, hl with | [_], _ => rfl, PySem.W.mg_of X G a8⟩
  have F9 := fun_mk (st := s_product_by) l9 c9 k9
  have A9 : DefAt K mg "product_by" s_product_by ["one", "other"] := ⟨_, _, F9, F9.binds (ps := ["one", "other"]) fun _ _ _ _ _ _ us hl => match us, hl with | [_, _], _ => rfl, PySem.W.mg_of X G a9⟩
  have F10 := fun_mk (st := s_back_by) l10 c10 k10
  have A10 : DefAt K mg "back_by" s_back_by ["quad"] := ⟨_, _, F10, F10.binds (ps := ["quad"]) fun _ _ _ _ _ _ us hl => match us, hl with | [_], _ => rfl, PySem.W.mg_of X G a10⟩
  have F11 := fun_mk (st := s_size_by) l11 c11 k11
  have A11 : DefAt K mg "size_by" s_size_by ["quad"] := ⟨_, _, F11, F11.binds (ps := ["quad"]) fun _ _ _ _ _ _ us hl => match us, hl with | [_], _ => rfl, PySem.W.mg_of X G a11⟩
  have F12 := fun_mk (st := s_plus_by) l12 c12 k12
  have A12 : DefAt K mg "plus_by" s_plus_by ["one", "other", "many"] := ⟨_, _, F12, F12.binds (ps := ["one", "other", "many"]) fun _ _ _ _ _ _ us hl => match us, hl with | [_, _, _], _ => rfl, PySem.W.mg_of X G a12⟩
  have F13 := fun_mk (st := s_minus_by) l13 c13 k13
  have A13 : DefAt K mg "minus_by" s_minus_by ["one", "other"] := ⟨_, _, F13, F13.binds (ps := ["one", "other"]) fun _ _ _ _ _ _ us hl => match us, hl with | [_, _], _ => rfl, PySem.W.mg_of X G a13⟩
  have F14 := fun_mk (st := s_times_number) l14 c14 k14
  have A14 : DefAt K mg "times_number" s_times_number ["number", "quad"] := ⟨_, _, F14, F14.binds (ps := ["number", "quad"]) fun _ _ _ _ _ _ us hl => match us, hl with | [_, _], _ => rfl, PySem.W.mg_of X G a14⟩
  have F15 := fun_mk (st := s_content_by) l15 c15 k15
  have A15 : DefAt K mg "content_by" s_content_by ["quad"] := ⟨_, _, F15, F15.binds (ps := ["quad"]) fun _ _ _ _ _ _ us hl => match us, hl with | [_], _ => rfl, PySem.W.mg_of X G a15⟩
  have F16 := fun_mk (st := s_product) l16 c16 k16
  have A16 : DefAt K mg "product" s_product ["one", "other"] := ⟨_, _, F16, F16.binds (ps := ["one", "other"]) fun _ _ _ _ _ _ us hl => match us, hl with | [_, _], _ => rfl, PySem.W.mg_of X G a16⟩
  have F17 := fun_mk (st := s_back) l17 c17 k17
  have A17 : DefAt K mg "back" s_back ["quad"] := ⟨_, _, F17, F17.binds (ps := ["quad"]) fun _ _ _ _ _ _ us hl => match us, hl with | [_], _ => rfl, PySem.W.mg_of X G a17⟩
  have F18 := fun_mk (st := s_nearest) l18 c18 k18
  have A18 : DefAt K mg "nearest" s_nearest ["number", "below", "rest"] := ⟨_, _, F18, F18.binds (ps := ["number", "below", "rest"]) fun _ _ _ _ _ _ us hl => match us, hl with | [_, _, _], _ => rfl, PySem.W.mg_of X G a18⟩
  have F19 := fun_mk (st := s_near_quads) l19 c19 k19
  have A19 : DefAt K mg "near_quads" s_near_quads ["quad", "below"] := ⟨_, _, F19, F19.binds (ps := ["quad", "below"]) fun _ _ _ _ _ _ us hl => match us, hl with | [_, _], _ => rfl, PySem.W.mg_of X G a19⟩
  have F20 := fun_mk (st := s_left_by) l20 c20 k20
  have A20 : DefAt K mg "left_by" s_left_by ["one", "other"] := ⟨_, _, F20, F20.binds (ps := ["one", "other"]) fun _ _ _ _ _ _ us hl => match us, hl with | [_, _], _ => rfl, PySem.W.mg_of X G a20⟩
  have F21 := fun_mk (st := s_first_by) l21 c21 k21
  have A21 : DefAt K mg "first_by" s_first_by ["quad"] := ⟨_, _, F21, F21.binds (ps := ["quad"]) fun _ _ _ _ _ _ us hl => match us, hl with | [_], _ => rfl, PySem.W.mg_of X G a21⟩
  have F22 := fun_mk (st := s_left_common) l22 c22 k22
  have A22 : DefAt K mg "left_common" s_left_common ["one", "other"] := ⟨_, _, F22, F22.binds (ps := ["one", "other"]) fun _ _ _ _ _ _ us hl => match us, hl with | [_, _], _ => rfl, PySem.W.mg_of X G a22⟩
  have F23 := fun_mk (st := s_is_prime) l23 c23 k23
  have A23 : DefAt K mg "is_prime" s_is_prime ["thing"] := ⟨_, _, F23, F23.binds (ps := ["thing"]) fun _ _ _ _ _ _ us hl => match us, hl with | [_], _ => rfl, PySem.W.mg_of X G a23⟩
  have F24 := fun_mk (st := s_need_prime) l24 c24 k24
  have A24 : DefAt K mg "need_prime" s_need_prime ["prime"] := ⟨_, _, F24, F24.binds (ps := ["prime"]) fun _ _ _ _ _ _ us hl => match us, hl with | [_], _ => rfl, PySem.W.mg_of X G a24⟩
  have F25 := fun_mk (st := s_root_of) l25 c25 k25
  have A25 : DefAt K mg "root_of" s_root_of ["number"] := ⟨_, _, F25, F25.binds (ps := ["number"]) fun _ _ _ _ _ _ us hl => match us, hl with | [_], _ => rfl, PySem.W.mg_of X G a25⟩
  have F26 := fun_mk (st := s_squares_of) l26 c26 k26
  have A26 : DefAt K mg "squares_of" s_squares_of ["number", "most"] := ⟨_, _, F26, F26.binds (ps := ["number", "most"]) fun _ _ _ _ _ _ us hl => match us, hl with | [_, _], _ => rfl, PySem.W.mg_of X G a26⟩
  have F27 := fun_mk (st := s_left_by_prime) l27 c27 k27
  have A27 : DefAt K mg "left_by_prime" s_left_by_prime ["quad", "prime"] := ⟨_, _, F27, F27.binds (ps := ["quad", "prime"]) fun _ _ _ _ _ _ us hl => match us, hl with | [_, _], _ => rfl, PySem.W.mg_of X G a27⟩
  have F28 := fun_mk (st := s_is_divided_by) l28 c28 k28
  have A28 : DefAt K mg "is_divided_by" s_is_divided_by ["quad", "prime"] := ⟨_, _, F28, F28.binds (ps := ["quad", "prime"]) fun _ _ _ _ _ _ us hl => match us, hl with | [_, _], _ => rfl, PySem.W.mg_of X G a28⟩
  have F29 := fun_mk (st := s_need_left) l29 c29 k29
  have A29 : DefAt K mg "need_left" s_need_left ["quad", "prime"] := ⟨_, _, F29, F29.binds (ps := ["quad", "prime"]) fun _ _ _ _ _ _ us hl => match us, hl with | [_, _], _ => rfl, PySem.W.mg_of X G a29⟩
  have F30 := fun_mk (st := s_left_of) l30 c30 k30
  have A30 : DefAt K mg "left_of" s_left_of ["quad", "prime"] := ⟨_, _, F30, F30.binds (ps := ["quad", "prime"]) fun _ _ _ _ _ _ us hl => match us, hl with | [_, _], _ => rfl, PySem.W.mg_of X G a30⟩
  have F31 := fun_mk (st := s_is_divided) l31 c31 k31
  have A31 : DefAt K mg "is_divided" s_is_divided ["quad", "prime"] := ⟨_, _, F31, F31.binds (ps := ["quad", "prime"]) fun _ _ _ _ _ _ us hl => match us, hl with | [_, _], _ => rfl, PySem.W.mg_of X G a31⟩
  have F32 := fun_mk (st := s_need_odd) l32 c32 k32
  have A32 : DefAt K mg "need_odd" s_need_odd ["prime"] := ⟨_, _, F32, F32.binds (ps := ["prime"]) fun _ _ _ _ _ _ us hl => match us, hl with | [_], _ => rfl, PySem.W.mg_of X G a32⟩
  have F33 := fun_mk (st := s_marks_by) l33 c33 k33
  have A33 : DefAt K mg "marks_by" s_marks_by ["prime"] := ⟨_, _, F33, F33.binds (ps := ["prime"]) fun _ _ _ _ _ _ us hl => match us, hl with | [_], _ => rfl, PySem.W.mg_of X G a33⟩
  have F34 := fun_mk (st := s_half_by) l34 c34 k34
  have A34 : DefAt K mg "half_by" s_half_by ["prime", "number"] := ⟨_, _, F34, F34.binds (ps := ["prime", "number"]) fun _ _ _ _ _ _ us hl => match us, hl with | [_, _], _ => rfl, PySem.W.mg_of X G a34⟩
  have F35 := fun_mk (st := s_table_by) l35 c35 k35
  have A35 : DefAt K mg "table_by" s_table_by ["prime", "quad"] := ⟨_, _, F35, F35.binds (ps := ["prime", "quad"]) fun _ _ _ _ _ _ us hl => match us, hl with | [_, _], _ => rfl, PySem.W.mg_of X G a35⟩
  have F36 := fun_mk (st := s_table_of) l36 c36 k36
  have A36 : DefAt K mg "table_of" s_table_of ["prime", "quad"] := ⟨_, _, F36, F36.binds (ps := ["prime", "quad"]) fun _ _ _ _ _ _ us hl => match us, hl with | [_, _], _ => rfl, PySem.W.mg_of X G a36⟩
  have F37 := fun_mk (st := s_least_line) l37 c37 k37
  have A37 : DefAt K mg "least_line" s_least_line ["prime", "column"] := ⟨_, _, F37, F37.binds (ps := ["prime", "column"]) fun _ _ _ _ _ _ us hl => match us, hl with | [_, _], _ => rfl, PySem.W.mg_of X G a37⟩
  have F38 := fun_mk (st := s_is_line_of) l38 c38 k38
  have A38 : DefAt K mg "is_line_of" s_is_line_of ["prime", "thing"] := ⟨_, _, F38, F38.binds (ps := ["prime", "thing"]) fun _ _ _ _ _ _ us hl => match us, hl with | [_, _], _ => rfl, PySem.W.mg_of X G a38⟩
  have F39 := fun_mk (st := s_line_by) l39 c39 k39
  have A39 : DefAt K mg "line_by" s_line_by ["prime", "quad"] := ⟨_, _, F39, F39.binds (ps := ["prime", "quad"]) fun _ _ _ _ _ _ us hl => match us, hl with | [_, _], _ => rfl, PySem.W.mg_of X G a39⟩
  have F40 := fun_mk (st := s_led_by) l40 c40 k40
  have A40 : DefAt K mg "led_by" s_led_by ["prime", "quad", "line"] := ⟨_, _, F40, F40.binds (ps := ["prime", "quad", "line"]) fun _ _ _ _ _ _ us hl => match us, hl with | [_, _, _], _ => rfl, PySem.W.mg_of X G a40⟩
  have F41 := fun_mk (st := s_need_line) l41 c41 k41
  have A41 : DefAt K mg "need_line" s_need_line ["prime", "line"] := ⟨_, _, F41, F41.binds (ps := ["prime", "line"]) fun _ _ _ _ _ _ us hl => match us, hl with | [_, _], _ => rfl, PySem.W.mg_of X G a41⟩
  have F42 := fun_mk (st := s_has_line) l42 c42 k42
  have A42 : DefAt K mg "has_line" s_has_line ["prime", "quad"] := ⟨_, _, F42, F42.binds (ps := ["prime", "quad"]) fun _ _ _ _ _ _ us hl => match us, hl with | [_, _], _ => rfl, PySem.W.mg_of X G a42⟩
  have F43 := fun_mk (st := s_line_of) l43 c43 k43
  have A43 : DefAt K mg "line_of" s_line_of ["prime", "quad"] := ⟨_, _, F43, F43.binds (ps := ["prime", "quad"]) fun _ _ _ _ _ _ us hl => match us, hl with | [_, _], _ => rfl, PySem.W.mg_of X G a43⟩
  have F44 := fun_mk (st := s_led_line) l44 c44 k44
  have A44 : DefAt K mg "led_line" s_led_line ["prime", "quad", "line"] := ⟨_, _, F44, F44.binds (ps := ["prime", "quad", "line"]) fun _ _ _ _ _ _ us hl => match us, hl with | [_, _, _], _ => rfl, PySem.W.mg_of X G a44⟩
  have F45 := fun_mk (st := s_Lpick) l45 c45 k45
  have A45 : DefAt K mg "_law_pick" s_Lpick ["draw", "some"] := ⟨_, _, F45, F45.binds (ps := ["draw", "some"]) fun _ _ _ _ _ _ us hl => match us, hl with | [_, _], _ => rfl, PySem.W.mg_of X G a45⟩
  have F46 := fun_mk (st := s_Lback) l46 c46 k46
  have A46 : DefAt K mg "_law_back" s_Lback ["quad"] := ⟨_, _, F46, F46.binds (ps := ["quad"]) fun _ _ _ _ _ _ us hl => match us, hl with | [_], _ => rfl, PySem.W.mg_of X G a46⟩
  have F47 := fun_mk (st := s_Lsize) l47 c47 k47
  have A47 : DefAt K mg "_law_size" s_Lsize ["quad"] := ⟨_, _, F47, F47.binds (ps := ["quad"]) fun _ _ _ _ _ _ us hl => match us, hl with | [_], _ => rfl, PySem.W.mg_of X G a47⟩
  have F48 := fun_mk (st := s_Lrows) l48 c48 k48
  have A48 : DefAt K mg "_law_rows" s_Lrows ["numbers"] := ⟨_, _, F48, F48.binds (ps := ["numbers"]) fun _ _ _ _ _ _ us hl => match us, hl with | [_], _ => rfl, PySem.W.mg_of X G a48⟩
  have F49 := fun_mk (st := s_Lcommon) l49 c49 k49
  have A49 : DefAt K mg "_law_common" s_Lcommon ["one", "other"] := ⟨_, _, F49, F49.binds (ps := ["one", "other"]) fun _ _ _ _ _ _ us hl => match us, hl with | [_, _], _ => rfl, PySem.W.mg_of X G a49⟩
  have F50 := fun_mk (st := s_Lcontent) l50 c50 k50
  have A50 : DefAt K mg "_law_content" s_Lcontent ["quad"] := ⟨_, _, F50, F50.binds (ps := ["quad"]) fun _ _ _ _ _ _ us hl => match us, hl with | [_], _ => rfl, PySem.W.mg_of X G a50⟩
  have F51 := fun_mk (st := s_Lquad) l51 c51 k51
  have A51 : DefAt K mg "_law_quad" s_Lquad ["draw"] := ⟨_, _, F51, F51.binds (ps := ["draw"]) fun _ _ _ _ _ _ us hl => match us, hl with | [_], _ => rfl, PySem.W.mg_of X G a51⟩
  have F52 := fun_mk (st := s_Lsome_quad) l52 c52 k52
  have A52 : DefAt K mg "_law_some_quad" s_Lsome_quad ["draw"] := ⟨_, _, F52, F52.binds (ps := ["draw"]) fun _ _ _ _ _ _ us hl => match us, hl with | [_], _ => rfl, PySem.W.mg_of X G a52⟩
  have F53 := fun_mk (st := s_Ltree_prime) l53 c53 k53
  have A53 : DefAt K mg "_law_tree_prime" s_Ltree_prime ["draw"] := ⟨_, _, F53, F53.binds (ps := ["draw"]) fun _ _ _ _ _ _ us hl => match us, hl with | [_], _ => rfl, PySem.W.mg_of X G a53⟩
  have F54 := fun_mk (st := s_Lmarks) l54 c54 k54
  have A54 : DefAt K mg "_law_marks" s_Lmarks ["prime"] := ⟨_, _, F54, F54.binds (ps := ["prime"]) fun _ _ _ _ _ _ us hl => match us, hl with | [_], _ => rfl, PySem.W.mg_of X G a54⟩
  have F55 := fun_mk (st := s_Lhalf) l55 c55 k55
  have A55 : DefAt K mg "_law_half" s_Lhalf ["prime", "number"] := ⟨_, _, F55, F55.binds (ps := ["prime", "number"]) fun _ _ _ _ _ _ us hl => match us, hl with | [_, _], _ => rfl, PySem.W.mg_of X G a55⟩
  have F56 := fun_mk (st := s_Ltable) l56 c56 k56
  have A56 : DefAt K mg "_law_table" s_Ltable ["prime", "quad"] := ⟨_, _, F56, F56.binds (ps := ["prime", "quad"]) fun _ _ _ _ _ _ us hl => match us, hl with | [_, _], _ => rfl, PySem.W.mg_of X G a56⟩
  have F57 := fun_mk (st := s_Lline_of_column) l57 c57 k57
  have A57 : DefAt K mg "_law_line_of_column" s_Lline_of_column ["prime", "x", "y"] := ⟨_, _, F57, F57.binds (ps := ["prime", "x", "y"]) fun _ _ _ _ _ _ us hl => match us, hl with | [_, _, _], _ => rfl, PySem.W.mg_of X G a57⟩
  have F58 := fun_mk (st := s_Lline) l58 c58 k58
  have A58 : DefAt K mg "_law_line" s_Lline ["prime", "quad"] := ⟨_, _, F58, F58.binds (ps := ["prime", "quad"]) fun _ _ _ _ _ _ us hl => match us, hl with | [_, _], _ => rfl, PySem.W.mg_of X G a58⟩
  have F59 := fun_mk (st := s_Lhas_line) l59 c59 k59
  have A59 : DefAt K mg "_law_has_line" s_Lhas_line ["prime", "quad"] := ⟨_, _, F59, F59.binds (ps := ["prime", "quad"]) fun _ _ _ _ _ _ us hl => match us, hl with | [_, _], _ => rfl, PySem.W.mg_of X G a59⟩
  have F60 := fun_mk (st := s_Llined) l60 c60 k60
  have A60 : DefAt K mg "_law_lined" s_Llined ["draw", "prime"] := ⟨_, _, F60, F60.binds (ps := ["draw", "prime"]) fun _ _ _ _ _ _ us hl => match us, hl with | [_, _], _ => rfl, PySem.W.mg_of X G a60⟩
  have F61 := fun_mk (st := s_quads_of) l61 c61 k61
  have A61 : DefAt K mg "quads_of" s_quads_of ["number"] := ⟨_, _, F61, F61.binds (ps := ["number"]) fun _ _ _ _ _ _ us hl => match us, hl with | [_], _ => rfl, PySem.W.mg_of X G a61⟩
  have F62 := fun_mk (st := s_firsts_by) l62 c62 k62
  have A62 : DefAt K mg "firsts_by" s_firsts_by ["prime"] := ⟨_, _, F62, F62.binds (ps := ["prime"]) fun _ _ _ _ _ _ us hl => match us, hl with | [_], _ => rfl, PySem.W.mg_of X G a62⟩
  have F63 := fun_mk (st := s_first_of_line) l63 c63 k63
  have A63 : DefAt K mg "first_of_line" s_first_of_line ["prime", "line"] := ⟨_, _, F63, F63.binds (ps := ["prime", "line"]) fun _ _ _ _ _ _ us hl => match us, hl with | [_, _], _ => rfl, PySem.W.mg_of X G a63⟩
  have F64 := fun_mk (st := s_Lunits) l64 c64 k64
  have A64 : DefAt K mg "_law_units" s_Lunits [] := ⟨_, _, F64, F64.binds (ps := []) fun _ _ _ _ _ _ us hl => match us, hl with | [], _ => rfl, PySem.W.mg_of X G a64⟩
  have F65 := fun_mk (st := s_Lunit) l65 c65 k65
  have A65 : DefAt K mg "_law_unit" s_Lunit ["draw"] := ⟨_, _, F65, F65.binds (ps := ["draw"]) fun _ _ _ _ _ _ us hl => match us, hl with | [_], _ => rfl, PySem.W.mg_of X G a65⟩
  have F66 := fun_mk (st := s_Lfree) l66 c66 k66
  have A66 : DefAt K mg "_law_free" s_Lfree ["draw", "prime"] := ⟨_, _, F66, F66.binds (ps := ["draw", "prime"]) fun _ _ _ _ _ _ us hl => match us, hl with | [_, _], _ => rfl, PySem.W.mg_of X G a66⟩
  have F67 := fun_mk (st := s_Lright) l67 c67 k67
  have A67 : DefAt K mg "_law_right" s_Lright ["draw"] := ⟨_, _, F67, F67.binds (ps := ["draw"]) fun _ _ _ _ _ _ us hl => match us, hl with | [_], _ => rfl, PySem.W.mg_of X G a67⟩
  have F68 := fun_mk (st := s_law) l68 c68 k68
  have A68 : DefAt K mg "law" s_law ["script"] := ⟨_, _, F68, F68.binds (ps := ["script"]) fun _ _ _ _ _ _ us hl => match us, hl with | [_], _ => rfl, PySem.W.mg_of X G a68⟩
  have n_abs := PySem.W.mg_none_of X G z_abs
  have n_all := PySem.W.mg_none_of X G z_all
  have n_bool := PySem.W.mg_none_of X G z_bool
  have n_int := PySem.W.mg_none_of X G z_int
  have n_isinstance := PySem.W.mg_none_of X G z_isinstance
  have n_len := PySem.W.mg_none_of X G z_len
  have n_max := PySem.W.mg_none_of X G z_max
  have n_min := PySem.W.mg_none_of X G z_min
  have n_range := PySem.W.mg_none_of X G z_range
  have n_set := PySem.W.mg_none_of X G z_set
  have n_sorted := PySem.W.mg_none_of X G z_sorted
  have n_sum := PySem.W.mg_none_of X G z_sum
  have n_tuple := PySem.W.mg_none_of X G z_tuple
  have n_zip := PySem.W.mg_none_of X G z_zip
  have n_gcd := PySem.W.mg_of X G z_gcd
  have c_FIFTY_DIGITS : CstAt K mg "FIFTY_DIGITS" D_FIFTY_DIGITS := cst_int (PySem.W.mg_of X G z_FIFTY_DIGITS)
  have c_MOST_LISTED : CstAt K mg "MOST_LISTED" D_MOST_LISTED := cst_int (PySem.W.mg_of X G z_MOST_LISTED)
  have c_MOST_PRIME : CstAt K mg "MOST_PRIME" D_MOST_PRIME := cst_int (PySem.W.mg_of X G z_MOST_PRIME)
  have c_NOUGHT : CstAt K mg "NOUGHT" D_NOUGHT := cst_tupI (PySem.W.mg_of X G z_NOUGHT) y_NOUGHT x_NOUGHT
  have c_PARTS : CstAt K mg "PARTS" D_PARTS := cst_int (PySem.W.mg_of X G z_PARTS)
  have c_UNITS : CstAt K mg "UNITS" D_UNITS := cst_tupT (PySem.W.mg_of X G z_UNITS) y_UNITS x_UNITS (.cons (tupK_mk y_UNITS_0 x_UNITS_0) (.cons (tupK_mk y_UNITS_1 x_UNITS_1) (.cons (tupK_mk y_UNITS_2 x_UNITS_2) (.cons (tupK_mk y_UNITS_3 x_UNITS_3) (.cons (tupK_mk y_UNITS_4 x_UNITS_4) (.cons (tupK_mk y_UNITS_5 x_UNITS_5) (.cons (tupK_mk y_UNITS_6 x_UNITS_6) (.cons (tupK_mk y_UNITS_7 x_UNITS_7) (.cons (tupK_mk y_UNITS_8 x_UNITS_8) (.cons (tupK_mk y_UNITS_9 x_UNITS_9) (.cons (tupK_mk y_UNITS_10 x_UNITS_10) (.cons (tupK_mk y_UNITS_11 x_UNITS_11) (.cons (tupK_mk y_UNITS_12 x_UNITS_12) (.cons (tupK_mk y_UNITS_13 x_UNITS_13) (.cons (tupK_mk y_UNITS_14 x_UNITS_14) (.cons (tupK_mk y_UNITS_15 x_UNITS_15) (.cons (tupK_mk y_UNITS_16 x_UNITS_16) (.cons (tupK_mk y_UNITS_17 x_UNITS_17) (.cons (tupK_mk y_UNITS_18 x_UNITS_18) (.cons (tupK_mk y_UNITS_19 x_UNITS_19) (.cons (tupK_mk y_UNITS_20 x_UNITS_20) (.cons (tupK_mk y_UNITS_21 x_UNITS_21) (.cons (tupK_mk y_UNITS_22 x_UNITS_22) (.cons (tupK_mk y_UNITS_23 x_UNITS_23) .nil))))))))))))))))))))))))
  refine ⟨PySem.W.fnOf "law" "law" (defArgs s_law) (defBody s_law) (defScope s_law) .none kV68 dc68 pm68 an68 cd68 ct68, fun s v => .of_eq rfl, fun base _ _ => ?_⟩
  have h_Lbegun := ok_Lbegun (P := l.prog) (w := w) (base := base) A0 n_abs
  have h_Lmixed := ok_Lmixed (P := l.prog) (w := w) (base := base) A1 n_int
  have h_Ltake := ok_Ltake (P := l.prog) (w := w) (base := base) A2 h_Lmixed n_int
  have h_is_number := ok_is_number (P := l.prog) (w := w) (base := base) A3 n_bool n_int n_isinstance
  have h_is_short := ok_is_short (P := l.prog) (w := w) (base := base) A4 h_is_number n_abs c_FIFTY_DIGITS
  have h_is_quad_of := ok_is_quad_of (P := l.prog) (w := w) (base := base) A5 h_is_short n_all n_isinstance n_len n_tuple c_PARTS
  have h_need_quad := ok_need_quad (P := l.prog) (w := w) (base := base) A6 h_is_quad_of
  have h_need_two := ok_need_two (P := l.prog) (w := w) (base := base) A7 h_is_quad_of
  have h_short_quad := ok_short_quad (P := l.prog) (w := w) (base := base) A8 h_is_short n_all
  have h_product_by := ok_product_by (P := l.prog) (w := w) (base := base) A9
  have h_back_by := ok_back_by (P := l.prog) (w := w) (base := base) A10
  have h_size_by := ok_size_by (P := l.prog) (w := w) (base := base) A11 n_sum c_PARTS
  have h_plus_by := ok_plus_by (P := l.prog) (w := w) (base := base) A12 n_tuple n_zip
  have h_minus_by := ok_minus_by (P := l.prog) (w := w) (base := base) A13 h_plus_by
  have h_times_number := ok_times_number (P := l.prog) (w := w) (base := base) A14 n_tuple
  have h_content_by := ok_content_by (P := l.prog) (w := w) (base := base) A15 h_times_number n_all n_tuple n_gcd
  have h_product := ok_product (P := l.prog) (w := w) (base := base) A16 h_need_two h_short_quad h_product_by
  have h_back := ok_back (P := l.prog) (w := w) (base := base) A17 h_need_quad h_back_by
  have h_nearest := ok_nearest (P := l.prog) (w := w) (base := base) A18 n_abs n_min n_zip
  have h_near_quads := ok_near_quads (P := l.prog) (w := w) (base := base) A19 h_nearest
  have h_left_by := ok_left_by (P := l.prog) (w := w) (base := base) A20 h_near_quads h_size_by h_product_by h_back_by h_minus_by n_sorted
  have h_first_by := ok_first_by (P := l.prog) (w := w) (base := base) A21 h_product_by n_max c_UNITS
  have h_left_common := ok_left_common (P := l.prog) (w := w) (base := base) A22 h_left_by h_first_by c_NOUGHT
  have h_is_prime := ok_is_prime (P := l.prog) (w := w) (base := base) A23 h_is_number n_all n_range c_MOST_PRIME
  have h_need_prime := ok_need_prime (P := l.prog) (w := w) (base := base) A24 h_is_prime
  have h_root_of := ok_root_of (P := l.prog) (w := w) (base := base) A25
  have h_squares_of := ok_squares_of (P := l.prog) (w := w) (base := base) A26 h_root_of n_range
  have h_left_by_prime := ok_left_by_prime (P := l.prog) (w := w) (base := base) A27 h_left_common
  have h_is_divided_by := ok_is_divided_by (P := l.prog) (w := w) (base := base) A28 h_content_by c_NOUGHT
  have h_need_left := ok_need_left (P := l.prog) (w := w) (base := base) A29 h_need_quad h_need_prime h_size_by h_is_divided_by c_NOUGHT
  have h_left_of := ok_left_of (P := l.prog) (w := w) (base := base) A30 h_need_left h_left_by_prime
  have h_is_divided := ok_is_divided (P := l.prog) (w := w) (base := base) A31 h_need_quad h_need_prime h_is_divided_by
  have h_need_odd := ok_need_odd (P := l.prog) (w := w) (base := base) A32 h_need_prime
  have h_marks_by := ok_marks_by (P := l.prog) (w := w) (base := base) A33 n_range
  have h_half_by := ok_half_by (P := l.prog) (w := w) (base := base) A34
  have h_table_by := ok_table_by (P := l.prog) (w := w) (base := base) A35 h_marks_by h_half_by n_tuple
  have h_table_of := ok_table_of (P := l.prog) (w := w) (base := base) A36 h_need_odd h_need_quad h_table_by
  have h_least_line := ok_least_line (P := l.prog) (w := w) (base := base) A37 n_range
  have h_is_line_of := ok_is_line_of (P := l.prog) (w := w) (base := base) A38 h_is_number n_all n_isinstance n_len n_tuple
  have h_line_by := ok_line_by (P := l.prog) (w := w) (base := base) A39 h_table_by h_least_line
  have h_led_by := ok_led_by (P := l.prog) (w := w) (base := base) A40 h_table_by h_least_line
  have h_need_line := ok_need_line (P := l.prog) (w := w) (base := base) A41 h_is_line_of
  have h_has_line := ok_has_line (P := l.prog) (w := w) (base := base) A42 h_size_by h_is_divided_by
  have h_line_of := ok_line_of (P := l.prog) (w := w) (base := base) A43 h_need_odd h_need_quad h_has_line h_line_by
  have h_led_line := ok_led_line (P := l.prog) (w := w) (base := base) A44 h_need_odd h_need_quad h_size_by h_need_line h_led_by
  have h_Lpick := ok_Lpick (P := l.prog) (w := w) (base := base) A45 h_Ltake n_len
  have h_Lback := ok_Lback (P := l.prog) (w := w) (base := base) A46
  have h_Lsize := ok_Lsize (P := l.prog) (w := w) (base := base) A47 n_sum
  have h_Lrows := ok_Lrows (P := l.prog) (w := w) (base := base) A48 n_range n_sum
  have h_Lcommon := ok_Lcommon (P := l.prog) (w := w) (base := base) A49 n_abs n_int
  have h_Lcontent := ok_Lcontent (P := l.prog) (w := w) (base := base) A50 h_Lcommon n_int n_len n_set n_tuple
  have h_Lquad := ok_Lquad (P := l.prog) (w := w) (base := base) A51 h_Ltake n_range n_tuple
  have h_Lsome_quad := ok_Lsome_quad (P := l.prog) (w := w) (base := base) A52 h_Lquad
  have h_Ltree_prime := ok_Ltree_prime (P := l.prog) (w := w) (base := base) A53 h_Lpick
  have h_Lmarks := ok_Lmarks (P := l.prog) (w := w) (base := base) A54 n_int n_min n_range
  have h_Lhalf := ok_Lhalf (P := l.prog) (w := w) (base := base) A55 n_int
  have h_Ltable := ok_Ltable (P := l.prog) (w := w) (base := base) A56 h_Lmarks h_Lhalf n_range n_sum n_tuple n_zip
  have h_Lline_of_column := ok_Lline_of_column (P := l.prog) (w := w) (base := base) A57 n_int n_range
  have h_Lline := ok_Lline (P := l.prog) (w := w) (base := base) A58 h_Ltable h_Lline_of_column
  have h_Lhas_line := ok_Lhas_line (P := l.prog) (w := w) (base := base) A59 h_Lsize h_Lcontent n_int
  have h_Llined := ok_Llined (P := l.prog) (w := w) (base := base) A60 h_Lpick h_Ltake h_Lmarks h_Lhalf h_Lhas_line n_range n_tuple
  have h_quads_of := ok_quads_of (P := l.prog) (w := w) (base := base) A61 h_root_of h_squares_of n_range
  have h_firsts_by := ok_firsts_by (P := l.prog) (w := w) (base := base) A62 h_quads_of h_first_by n_sorted
  have h_first_of_line := ok_first_of_line (P := l.prog) (w := w) (base := base) A63 h_need_odd h_need_line h_firsts_by h_line_by c_MOST_LISTED
  have h_Lunits := ok_Lunits (P := l.prog) (w := w) (base := base) A64 h_Lrows n_range n_sorted n_sum n_tuple
  have h_Lunit := ok_Lunit (P := l.prog) (w := w) (base := base) A65 h_Lpick h_Lunits
  have h_Lfree := ok_Lfree (P := l.prog) (w := w) (base := base) A66 h_Lsome_quad h_Lsize h_Lunit n_int
  have h_Lright := ok_Lright (P := l.prog) (w := w) (base := base) A67 h_Ltree_prime h_Llined h_Lfree h_line_of h_Lline h_product h_led_line h_is_divided h_Lcontent h_table_of h_back h_left_of h_first_of_line h_Lback n_int
  have h_law := ok_law (P := l.prog) (w := w) (base := base) F68 h_Lbegun h_Lright n_len n_min n_range math
  exact h_law
end Fw

set_option Elab.async false
set_option linter.all false
set_option maxRecDepth 100000
set_option maxHeartbeats 2000000
set_option autoImplicit false
namespace Fs
open PySem

/-! ### what holds of every way, shut off from unfolding -/
structure Cm.AllS {α : Type} (P : α → Prop) (m : Cm α) : Prop where
  h : Cm.All P m
theorem Cm.AllS.mono {α : Type} {P Q : α → Prop} (h : ∀ a, P a → Q a) {m : Cm α} (p : m.AllS P) : m.AllS Q := ⟨Cm.All.mono h p.h⟩
theorem Cm.alls_bind {α β : Type} {P : β → Prop} {f : α → Cm β} {m : Cm α} : (m.bind f).AllS P ↔ m.AllS fun a => (f a).AllS P :=
  ⟨fun h => ⟨Cm.All.mono (fun _ k => ⟨k⟩) (Cm.all_bind.mp h.h)⟩, fun h => ⟨Cm.all_bind.mpr (Cm.All.mono (fun _ k => k.h) h.h)⟩⟩
@[simp] theorem Cm.alls_ret {α : Type} (P : α → Prop) (a : α) : (Cm.ret a).AllS P ↔ P a := ⟨fun h => h.h, fun h => ⟨h⟩⟩

/-! ### bounded numbers -/
class Bd (k : outParam Nat) (i : Int) : Prop where
  lt : i.natAbs < 2 ^ k
theorem Bd.mono {k l : Nat} {i : Int} (h : Bd k i) (hk : k ≤ l) : Bd l i := ⟨Nat.lt_of_lt_of_le h.lt (Nat.pow_le_pow_right (by decide) hk)⟩
theorem two_pow_add_le (k l : Nat) : 2 ^ k + 2 ^ l ≤ 2 ^ (k + l + 1) := by
  have h1 : 2 ^ k ≤ 2 ^ (k + l) := Nat.pow_le_pow_right (by decide) (Nat.le_add_right _ _)
  have h2 : 2 ^ l ≤ 2 ^ (k + l) := Nat.pow_le_pow_right (by decide) (Nat.le_add_left _ _)
  rw [Nat.pow_succ]; omega
instance Bd.add {k l : Nat} {i j : Int} [a : Bd k i] [b : Bd l j] : Bd (k + l + 1) (i + j) := ⟨by
  have := a.lt; have := b.lt; have := two_pow_add_le k l
  have := Int.natAbs_add_le i j
  omega⟩
instance Bd.sub {k l : Nat} {i j : Int} [a : Bd k i] [b : Bd l j] : Bd (k + l + 1) (i - j) := ⟨by
  have := a.lt; have := b.lt; have := two_pow_add_le k l
  have : (i - j).natAbs ≤ i.natAbs + j.natAbs := by omega
  omega⟩
instance Bd.mul {k l : Nat} {i j : Int} [a : Bd k i] [b : Bd l j] : Bd (k + l) (i * j) := ⟨by
  rw [Int.natAbs_mul, Nat.pow_add]
  exact Nat.mul_lt_mul'' a.lt b.lt⟩
instance Bd.neg {k : Nat} {i : Int} [a : Bd k i] : Bd k (-i) := ⟨by rw [Int.natAbs_neg]; exact a.lt⟩
instance Bd.div {k : Nat} {i : Int} {n : Nat} [a : Bd k i] : Bd (k + 1) (i / (OfNat.ofNat n : Int)) := ⟨by
  have := a.lt
  have h : (i / (OfNat.ofNat n : Int)).natAbs ≤ i.natAbs := Int.natAbs_ediv_le_natAbs _ _
  rw [Nat.pow_succ]; omega⟩
instance Bd.lit {n : Nat} : Bd n (no_index (OfNat.ofNat n : Int)) := ⟨by
  show n < _
  exact Nat.lt_two_pow_self⟩
theorem mulOk_bd (k l : Nat) (i j : Int) [a : Bd k i] [b : Bd l j] (h : k + l < 1000000) : mulOk i j = true := by
  unfold mulOk
  rw [decide_eq_true_eq]
  have ha : i.natAbs.log2 ≤ k := by
    by_cases z : i.natAbs = 0
    · rw [z]; simp
    · exact Nat.le_of_lt ((Nat.log2_lt z).mpr a.lt)
  have hb : j.natAbs.log2 ≤ l := by
    by_cases z : j.natAbs = 0
    · rw [z]; simp
    · exact Nat.le_of_lt ((Nat.log2_lt z).mpr b.lt)
  omega
theorem vMul_bd (k l : Nat) (i j : Int) [a : Bd k i] [b : Bd l j] (h : k + l < 1000000) : vMul (.int i) (.int j) = .ret (.int (i * j)) := if_pos (mulOk_bd k l i j h)

theorem vMul_a {k l : Nat} {i j : Int} [a : Bd k i] [b : Bd l j] (h : k + l < 1000000) : vMul (.int i) (.int j) = .ret (.int (i * j)) := if_pos (mulOk_bd k l i j h)

/-! ### running the meanings -/
section
variable {env : Env} {i j : Nat} {f f1 f2 f3 : DE} {fs : DEs} {d e : D} {s1 s2 : DS} {t u : DT}
@[simp] theorem r_fnD (n : Nat) (s : DS) (ds : List D) : fnD n s ds = (s (sEnv n ds)).bind outD := rfl
@[simp] theorem r_sEnv (n : Nat) (ds : List D) : sEnv n ds = ds.map .val ++ List.replicate (n - ds.length) .no := rfl
@[simp] theorem r_var : dVar i env = match env[i]? with | some (.val d) => .ret d | _ => .bad := rfl
@[simp] theorem r_peek : dPeek i env = match env[i]? with | some (.val d) => .ret d | some (.own d) => .ret d | _ => .bad := rfl
@[simp] theorem r_cst : dCst d env = .ret d := rfl
@[simp] theorem r_op (g : D → D → Cm D) : dOp g f1 f2 env = (f1 env).bind fun x => (f2 env).bind fun y => g x y := rfl
@[simp] theorem r_un (g : D → Cm D) : dUn g f1 env = (f1 env).bind g := rfl
@[simp] theorem r_call (g : List D → Cm D) : dCall g fs env = (fs env).bind g := rfl
@[simp] theorem r_nil : dNil env = .ret [] := rfl
@[simp] theorem r_cons : dCons f fs env = (f env).bind fun d => (fs env).bind fun ds => .ret (d :: ds) := rfl
@[simp] theorem r_tru : dTru f env = (f env).bind fun d => match d with | .bool b => .ret b | _ => .bad := rfl
@[simp] theorem r_andT : dAndT t u env = (t env).bind fun b => if b then u env else .ret false := rfl
@[simp] theorem r_orT : dOrT t u env = (t env).bind fun b => if b then .ret true else u env := rfl
@[simp] theorem r_notT : dNotT t env = (t env).bind fun b => .ret (!b) := rfl
@[simp] theorem r_if : dIf t f1 f2 env = (t env).bind fun b => if b then f1 env else f2 env := rfl
@[simp] theorem r_andV : dAndV f1 f2 env = (f1 env).bind fun d => match d with | .bool b => if b then f2 env else .ret (.bool false) | _ => .bad := rfl
@[simp] theorem r_orV : dOrV f1 f2 env = (f1 env).bind fun d => match d with | .bool b => if b then .ret (.bool true) else f2 env | _ => .bad := rfl
@[simp] theorem r_notV : dNotV f env = (f env).bind fun d => match d with | .bool b => .ret (.bool (!b)) | _ => .bad := rfl
@[simp] theorem r_tupF : dTupF fs env = (fs env).bind fun ds => if ds.length ≤ 1000000 ∧ ds.all flatD = true then .ret (.tuple ds) else .bad := rfl
@[simp] theorem r_lstF : dLstF fs env = (fs env).bind fun ds => if ds.length ≤ 1000000 ∧ ds.all flatD = true then .ret (.list ds) else .bad := rfl
@[simp] theorem r_onlyL : dOnlyL f env = (f env).bind fun d => match d with | .list ds => .ret (.list ds) | _ => .bad := by unfold dOnlyL; rfl
@[simp] theorem r_callN (n : Nat) (g : List D → Cm D) : dCallN n g fs env = (fs env).bind fun ds => if ds.length = n then g ds else .bad := rfl
@[simp] theorem r_skip : dSkip env = .ret (.nx env) := rfl
@[simp] theorem r_frz : dFrz i s1 env = s1 (frz1 i env) := rfl
@[simp] theorem r_never : dNever env = .bad := rfl
@[simp] theorem r_ret : dRet f env = (f env).bind fun d => .ret (.rt d) := rfl
@[simp] theorem r_retN : dRetN env = .ret (.rt .none) := rfl
@[simp] theorem r_set : dSet i f env = (f env).bind fun d => .ret (.nx (env.set i (.val d))) := rfl
@[simp] theorem r_setF : dSetF i f env = (f env).bind fun d => .ret (.nx (env.set i (.own d))) := rfl
@[simp] theorem r_ifS : dIfS t s1 s2 env = (t env).bind fun b => if b then s1 env else s2 env := rfl
@[simp] theorem r_drop : dDrop f env = (f env).bind fun _ => .ret (.nx env) := rfl
@[simp] theorem r_cont : dCont env = .ret (.ct env) := rfl
@[simp] theorem r_brk : dBrk env = .ret (.bk env) := rfl
@[simp] theorem r_gN : gN i d env = .ret (env.set i (.val d)) := rfl
@[simp] theorem r_gsNil : gsNil [] env = .ret env := rfl
@[simp] theorem r_gsCons (g : DTg) (gs : DTgs) (ds : List D) : gsCons g gs (d :: ds) env = (g d env).bind fun e1 => gs ds e1 := rfl
@[simp] theorem r_asg (g : DTg) : dAsg f g env = (f env).bind fun d => (g d env).bind fun env' => .ret (.nx env') := rfl
@[simp] theorem r_par : dPar i j f1 f2 env = (f1 env).bind fun d1 => (f2 env).bind fun d2 => .ret (.nx ((env.set i (.val d1)).set j (.val d2))) := rfl
@[simp] theorem r_isi (T : String) : dIsi T f env = (f env).bind (vIsi T) := rfl
@[simp] theorem r_out1 (d : D) : outD (.rt d) = .ret d := rfl
@[simp] theorem r_out2 (e : Env) : outD (.nx e) = .ret .none := rfl
@[simp] theorem r_items : dItems f env = (f env).bind fun d => match d with | .list ds => .ret ds | .tuple ds => .ret ds | _ => .bad := rfl
@[simp] theorem r_yes : dYes env = .ret true := rfl
@[simp] theorem r_lc (fi : DEs) (g : DTg) (vs : List Nat) : dLc fi g t f vs env = (fi env).bind fun items => if items.length < 1000000 then (lcGo g t f items (wipeE env vs)).bind fun ys => .ret (.list ys) else .bad := rfl
@[simp] theorem r_lc0 (g : DTg) : lcGo g t f [] env = .ret [] := rfl
@[simp] theorem r_lc1 (g : DTg) (ds : List D) : lcGo g t f (d :: ds) env = (g d env).bind fun e1 => (t e1).bind fun b => if b = true then (f e1).bind fun y => if flatD y = true then (lcGo g t f ds env).bind fun ys => .ret (y :: ys) else .bad else lcGo g t f ds env := rfl
@[simp] theorem r_wipe0 : wipeE env [] = env := rfl
@[simp] theorem r_wipe1 (v : Nat) (vs : List Nat) : wipeE env (v :: vs) = (wipeE env vs).set v .no := rfl
@[simp] theorem r_for (fi : DEs) (g : DTg) : dFor fi g s1 env = (fi env).bind fun items => forGo g s1 items env := rfl
@[simp] theorem r_for0 (g : DTg) : forGo g s1 [] env = .ret (.nx env) := rfl
@[simp] theorem r_for1 (g : DTg) (ds : List D) : forGo g s1 (d :: ds) env = (g d env).bind fun env1 => (s1 env1).bind fun o => match o with
    | .nx e => forGo g s1 ds e | .ct e => forGo g s1 ds e | .bk e => .ret (.nx e) | .rt d => .ret (.rt d) := rfl
@[simp] theorem r_zip2 : dZip2 fs env = (fs env).bind fun ds => match ds with | [.tuple a, .tuple b] => .ret (zip2 a b) | [.list a, .list b] => .ret (zip2 a b) | _ => .bad := rfl
@[simp] theorem r_zip3 : dZip3 fs env = (fs env).bind fun ds => match ds with | [.tuple a, .tuple b, .tuple c] => .ret (.tuple (zip3 a b c)) | _ => .bad := rfl
@[simp] theorem r_add (i j : Int) : vAdd (.int i) (.int j) = .ret (.int (i + j)) := rfl
@[simp] theorem r_sub (i j : Int) : vSub (.int i) (.int j) = .ret (.int (i - j)) := rfl
@[simp] theorem r_neg (i : Int) : vNeg (.int i) = .ret (.int (-i)) := rfl
@[simp] theorem r_cmp (p : Int → Int → Bool) (i j : Int) : vCmp p (.int i) (.int j) = .ret (.bool (p i j)) := rfl
@[simp] theorem r_div (i j : Int) : vDiv (.int i) (.int j) = if 0 < j ∧ j.natAbs.log2 < 9000 then .ret (.int (i / j)) else .bad := rfl
@[simp] theorem r_mod (i j : Int) : vMod (.int i) (.int j) = if 0 < j then .ret (.int (i % j)) else .bad := rfl
@[simp] theorem r_flat1 (i : Int) : flatD (.int i) = true := rfl
@[simp] theorem r_flat2 (ds : List D) : flatD (.tuple ds) = true := rfl
@[simp] theorem r_flat3 (ds : List D) : flatD (.list ds) = true := rfl
@[simp] theorem r_flat4 (b : Bool) : flatD (.bool b) = true := rfl
@[simp] theorem r_flat5 (b : String) : flatD (.str b) = true := rfl
@[simp] theorem r_flat6 : flatD .none = true := rfl
@[simp] theorem r_len1 (ds : List D) : cLen [.list ds] = .ret (.int ds.length) := rfl
@[simp] theorem r_len2 (ds : List D) : cLen [.tuple ds] = .ret (.int ds.length) := rfl
@[simp] theorem r_abs (i : Int) : cAbs [.int i] = .ret (.int (if i < 0 then -i else i)) := rfl
@[simp] theorem r_int (i : Int) : cInt [.int i] = .ret (.int i) := rfl
@[simp] theorem r_min2 (i j : Int) : cMin2 [.int i, .int j] = .ret (.int (if j < i then j else i)) := rfl
@[simp] theorem r_max2 (i j : Int) : cMax2 [.int i, .int j] = .ret (.int (if j > i then j else i)) := rfl
@[simp] theorem r_gcd (i j : Int) : cGcd [.int i, .int j] = .ret (.int ((Nat.gcd i.natAbs j.natAbs : Nat) : Int)) := rfl
@[simp] theorem r_tuple1 (ds : List D) : cTuple [.list ds] = .ret (.tuple ds) := rfl
@[simp] theorem r_tuple2 (ds : List D) : cTuple [.tuple ds] = .ret (.tuple ds) := rfl
end
@[simp] theorem r_seq (s1 s2 : DS) (env : Env) : dSeq s1 s2 env = (s1 env).bind fun o => match o with | .nx e => s2 e | .rt d => .ret (.rt d) | .bk e => .ret (.bk e) | .ct e => .ret (.ct e) := by
  unfold dSeq; rfl
@[simp] theorem r_gTp (n : Nat) (gs : DTgs) (ds : List D) (env : Env) : gTp n gs (.tuple ds) env = if ds.length = n then gs ds env else .bad := rfl
@[simp] theorem isi_ii (i : Int) : vIsi "int" (.int i) = .ret (.bool true) := by rfl
@[simp] theorem isi_bi (i : Int) : vIsi "bool" (.int i) = .ret (.bool false) := by rfl
@[simp] theorem isi_tt (ds : List D) : vIsi "tuple" (.tuple ds) = .ret (.bool true) := by rfl
@[simp] theorem isi_lt (ds : List D) : vIsi "list" (.tuple ds) = .ret (.bool false) := by rfl
@[simp] theorem isi_dt (ds : List D) : vIsi "dict" (.tuple ds) = .ret (.bool false) := by rfl
@[simp] theorem isi_bt (ds : List D) : vIsi "bool" (.tuple ds) = .ret (.bool false) := by rfl
@[simp] theorem isi_ti (i : Int) : vIsi "tuple" (.int i) = .ret (.bool false) := by rfl
end Fs

set_option Elab.async false
set_option linter.all false
set_option maxRecDepth 100000
set_option maxHeartbeats 2000000
set_option autoImplicit false
namespace Fs
open PySem
@[simp] theorem ret_out (m : Cm D) : (m.bind fun d => Cm.ret (Out.rt d)).bind outD = m := by
  rw [Cm.bind_assoc]
  exact Cm.bind_ret m
@[simp] theorem r_ne_ii (i j : Int) : vNe (.int i) (.int j) = .ret (.bool (!(i == j))) := by
  unfold vNe; rw [if_pos ⟨rfl, rfl, rfl, rfl⟩, PyData.eqv]
@[simp] theorem r_eq_ii (i j : Int) : vEq (.int i) (.int j) = .ret (.bool (i == j)) := by
  unfold vEq; rw [if_pos ⟨rfl, rfl, rfl, rfl⟩, PyData.eqv]
theorem vEq_self {d : D} (h : SeqAt.shaped d = true) (f : flatD d = true) : vEq d d = .ret (.bool true) := by
  unfold vEq; rw [if_pos ⟨h, h, f, f⟩, SeqAt.eqv_refl d (SeqAt.canLay_of_shaped h)]
theorem vNe_self {d : D} (h : SeqAt.shaped d = true) (f : flatD d = true) : vNe d d = .ret (.bool false) := by
  unfold vNe; rw [if_pos ⟨h, h, f, f⟩, SeqAt.eqv_refl d (SeqAt.canLay_of_shaped h)]; rfl
theorem vEq_eqv {d e : D} (h : SeqAt.shaped d = true) (h' : SeqAt.shaped e = true) (f : flatD d = true) (f' : flatD e = true) : vEq d e = .ret (.bool (PyData.eqv d e)) := if_pos ⟨h, h', f, f'⟩
theorem vNe_eqv {d e : D} (h : SeqAt.shaped d = true) (h' : SeqAt.shaped e = true) (f : flatD d = true) (f' : flatD e = true) : vNe d e = .ret (.bool (!PyData.eqv d e)) := if_pos ⟨h, h', f, f'⟩
@[simp] theorem r_ix_t (ds : List D) (i : Int) : vIx (.tuple ds) (.int i) = match L2.atI ds i with | some d => .ret d | none => .bad := rfl
@[simp] theorem r_ix_l (ds : List D) (i : Int) : vIx (.list ds) (.int i) = match L2.atI ds i with | some d => .ret d | none => .bad := rfl
@[simp] theorem all_nil0 : asBools [] = some [] := rfl
@[simp] theorem all_cons0 (b : Bool) (ds : List D) : asBools (.bool b :: ds) = (asBools ds).map (b :: ·) := rfl
@[simp] theorem ints_nil0 : asInts [] = some [] := rfl
@[simp] theorem ints_cons0 (b : Int) (ds : List D) : asInts (.int b :: ds) = (asInts ds).map (b :: ·) := rfl
@[simp] theorem r_all (ds : List D) : cAll [.list ds] = match asBools ds with | some bs => .ret (.bool (bs.all id)) | none => .bad := rfl
@[simp] theorem r_sum (ds : List D) : cSum [.list ds] = match asInts ds with | some bs => .ret (.int bs.sum) | none => .bad := rfl
@[simp] theorem lg2 : Nat.log2 2 = 1 := by rfl
@[simp] theorem lg4 : Nat.log2 4 = 2 := by rfl
abbrev t3 (a b c : Int) : D := .tuple [.int a, .int b, .int c]
abbrev q4 (a b c d : Int) : D := .tuple [.int a, .int b, .int c, .int d]
theorem sh_t3 (a b c : Int) : SeqAt.shaped (t3 a b c) = true := by rfl
theorem sh_q4 (a b c d : Int) : SeqAt.shaped (q4 a b c d) = true := by rfl
abbrev r33 (a b c d e f g h i : Int) : D := .tuple [t3 a b c, t3 d e f, t3 g h i]
theorem sh_r33 (a b c d e f g h i : Int) : SeqAt.shaped (r33 a b c d e f g h i) = true := by rfl
abbrev turnD (s : Int) (a b c d e f g h i : Int) : D := .tuple [.int s, r33 a b c d e f g h i]
theorem sh_turn (s a b c d e f g h i : Int) : SeqAt.shaped (turnD s a b c d e f g h i) = true := by rfl
theorem at_nat (ds : List D) (k : Nat) (d : D) (h : ds[k]? = some d) : L2.atI ds (k : Int) = some d := by
  have hk : k < ds.length := (List.getElem?_eq_some_iff.mp h).1
  unfold L2.atI L2.ixN
  rw [if_pos (by omega), if_pos (by omega)]
  exact h
@[simp] theorem at0 (a : D) (l : List D) : L2.atI (a :: l) 0 = some a := at_nat _ 0 _ rfl
@[simp] theorem at1 (a b : D) (l : List D) : L2.atI (a :: b :: l) 1 = some b := at_nat _ 1 _ rfl
@[simp] theorem at2 (a b c : D) (l : List D) : L2.atI (a :: b :: c :: l) 2 = some c := at_nat _ 2 _ rfl
@[simp] theorem at3 (a b c d : D) (l : List D) : L2.atI (a :: b :: c :: d :: l) 3 = some d := at_nat _ 3 _ rfl
theorem pow_lt_short {i : Int} [b : Bd 600 i] : (if i < 0 then -i else i) < 100000000000000000000000000000000000000000000000000000000000000000000000000000000000000000000000000000000000000000000000000000000000000000000000000000000000000000000000000000000000000000000000000000000 := by
  have h := b.lt
  have h2 : (2 : Nat) ^ 600 < 10 ^ 200 := by decide +kernel
  generalize (2 : Nat) ^ 600 = z at h h2
  split <;> omega
end Fs

set_option linter.all false
set_option autoImplicit false
set_option maxRecDepth 100000
/-! # Whole numbers of four parts, told by halves: plain mathematics -/
namespace Fq
open PySem Fs
structure Qt where
  a : Int
  b : Int
  c : Int
  d : Int
deriving DecidableEq
namespace Qt
def D (x : Qt) : Fs.D := q4 x.a x.b x.c x.d
/-- all even or all odd -/
structure Ok (x : Qt) : Prop where
  b : (x.b - x.a) % 2 = 0
  c : (x.c - x.a) % 2 = 0
  d : (x.d - x.a) % 2 = 0
def mul (x y : Qt) : Qt := ⟨(x.a * y.a - x.b * y.b - x.c * y.c - x.d * y.d) / 2, (x.a * y.b + x.b * y.a + x.c * y.d - x.d * y.c) / 2, (x.a * y.c - x.b * y.d + x.c * y.a + x.d * y.b) / 2, (x.a * y.d + x.b * y.c - x.c * y.b + x.d * y.a) / 2⟩
def conj (x : Qt) : Qt := ⟨x.a, -x.b, -x.c, -x.d⟩
/-- four times the size -/
def nsq (x : Qt) : Int := x.a * x.a + x.b * x.b + x.c * x.c + x.d * x.d
def smul (m : Int) (x : Qt) : Qt := ⟨m * x.a, m * x.b, m * x.c, m * x.d⟩
def add (x y : Qt) : Qt := ⟨x.a + y.a, x.b + y.b, x.c + y.c, x.d + y.d⟩
def sub (x y : Qt) : Qt := ⟨x.a - y.a, x.b - y.b, x.c - y.c, x.d - y.d⟩
def one : Qt := ⟨2, 0, 0, 0⟩
def zero : Qt := ⟨0, 0, 0, 0⟩
theorem ext {x y : Qt} (h1 : x.a = y.a) (h2 : x.b = y.b) (h3 : x.c = y.c) (h4 : x.d = y.d) : x = y := by
  cases x; cases y; simp_all
/-- the parts of a product, doubled -/
structure Pr (x y z : Qt) : Prop where
  a : x.a * y.a - x.b * y.b - x.c * y.c - x.d * y.d = 2 * z.a
  b : x.a * y.b + x.b * y.a + x.c * y.d - x.d * y.c = 2 * z.b
  c : x.a * y.c - x.b * y.d + x.c * y.a + x.d * y.b = 2 * z.c
  d : x.a * y.d + x.b * y.c - x.c * y.b + x.d * y.a = 2 * z.d
theorem Ok.ex {x : Qt} (h : x.Ok) : ∃ a k l m, x = ⟨a, a + 2 * k, a + 2 * l, a + 2 * m⟩ := by
  obtain ⟨a, b, c, d⟩ := x
  have h1 := h.b
  have h2 := h.c
  have h3 := h.d
  simp only at h1 h2 h3
  refine ⟨a, (b - a) / 2, (c - a) / 2, (d - a) / 2, ?_⟩
  congr 1 <;> omega
theorem ok_mk (a k l m : Int) : Ok ⟨a, a + 2 * k, a + 2 * l, a + 2 * m⟩ := ⟨by simp only; omega, by simp only; omega, by simp only; omega⟩
theorem pr_mul {x y : Qt} (hx : x.Ok) (hy : y.Ok) : Pr x y (mul x y) := by
  obtain ⟨a, k, l, m, rfl⟩ := hx.ex
  obtain ⟨e, p, q, r, rfl⟩ := hy.ex
  refine ⟨?_, ?_, ?_, ?_⟩
  · have : a * e - (a + 2 * k) * (e + 2 * p) - (a + 2 * l) * (e + 2 * q) - (a + 2 * m) * (e + 2 * r) = 2 * (-(a * e) - a * p - k * e - 2 * (k * p) - a * q - l * e - 2 * (l * q) - a * r - m * e - 2 * (m * r)) := by grind
    simp only [mul, this]
    omega
  · have : a * (e + 2 * p) + (a + 2 * k) * e + (a + 2 * l) * (e + 2 * r) - (a + 2 * m) * (e + 2 * q) = 2 * (a * e + a * p + k * e + a * r + l * e + 2 * (l * r) - a * q - m * e - 2 * (m * q)) := by grind
    simp only [mul, this]
    omega
  · have : a * (e + 2 * q) - (a + 2 * k) * (e + 2 * r) + (a + 2 * l) * e + (a + 2 * m) * (e + 2 * p) = 2 * (a * e + a * q - a * r - k * e - 2 * (k * r) + l * e + a * p + m * e + 2 * (m * p)) := by grind
    simp only [mul, this]
    omega
  · have : a * (e + 2 * r) + (a + 2 * k) * (e + 2 * q) - (a + 2 * l) * (e + 2 * p) + (a + 2 * m) * e = 2 * (a * e + a * r + a * q + k * e + 2 * (k * q) - a * p - l * e - 2 * (l * p) + m * e) := by grind
    simp only [mul, this]
    omega
theorem pr_eq {x y z : Qt} (h : Pr x y z) : mul x y = z := by
  obtain ⟨a, b, c, d⟩ := z
  obtain ⟨h1, h2, h3, h4⟩ := h
  simp only at h1 h2 h3 h4
  simp only [mul, h1, h2, h3, h4]
  congr 1 <;> omega
theorem ok_mul {x y : Qt} (hx : x.Ok) (hy : y.Ok) : (mul x y).Ok := by
  have H := pr_mul hx hy
  generalize mul x y = z at H
  obtain ⟨a, k, l, m, rfl⟩ := hx.ex
  obtain ⟨e, p, q, r, rfl⟩ := hy.ex
  obtain ⟨z1, z2, z3, z4⟩ := z
  obtain ⟨h1, h2, h3, h4⟩ := H
  simp only at h1 h2 h3 h4
  have e1 : z1 = -(a * e) - a * p - k * e - 2 * (k * p) - a * q - l * e - 2 * (l * q) - a * r - m * e - 2 * (m * r) := by grind
  have e2 : z2 = a * e + a * p + k * e + a * r + l * e + 2 * (l * r) - a * q - m * e - 2 * (m * q) := by grind
  have e3 : z3 = a * e + a * q - a * r - k * e - 2 * (k * r) + l * e + a * p + m * e + 2 * (m * p) := by grind
  have e4 : z4 = a * e + a * r + a * q + k * e + 2 * (k * q) - a * p - l * e - 2 * (l * p) + m * e := by grind
  refine ⟨?_, ?_, ?_⟩ <;> simp only <;> generalize a * e = u1 at * <;> generalize a * p = u2 at * <;> generalize k * e = u3 at * <;> generalize k * p = u4 at * <;> generalize a * q = u5 at * <;> generalize l * e = u6 at * <;>
    generalize l * q = u7 at * <;> generalize a * r = u8 at * <;> generalize m * e = u9 at * <;> generalize m * r = v1 at * <;> generalize l * r = v2 at * <;> generalize m * q = v3 at * <;> generalize k * r = v4 at * <;> generalize m * p = v5 at * <;>
    generalize k * q = v6 at * <;> generalize l * p = v7 at * <;> omega
theorem mul_assoc {x y z : Qt} (hx : x.Ok) (hy : y.Ok) (hz : z.Ok) : mul (mul x y) z = mul x (mul y z) := by
  have H1 := pr_mul hx hy
  have H2 := pr_mul hy hz
  have H3 := pr_mul (ok_mul hx hy) hz
  have H4 := pr_mul hx (ok_mul hy hz)
  generalize mul (mul x y) z = u at *
  generalize mul x (mul y z) = v at *
  generalize mul x y = p at *
  generalize mul y z = q at *
  obtain ⟨a1, a2, a3, a4⟩ := H1
  obtain ⟨b1, b2, b3, b4⟩ := H2
  obtain ⟨c1, c2, c3, c4⟩ := H3
  obtain ⟨d1, d2, d3, d4⟩ := H4
  clear hx hy hz
  have k : ∀ {s t : Int}, 4 * s = 4 * t → s = t := fun h => by omega
  refine ext (k ?_) (k ?_) (k ?_) (k ?_)
  · rw [show 4 * u.a = 2 * (2 * u.a) by omega, show 4 * v.a = 2 * (2 * v.a) by omega, ← c1, ← d1, show 2 * (p.a * z.a - p.b * z.b - p.c * z.c - p.d * z.d) = (2 * p.a) * z.a - (2 * p.b) * z.b - (2 * p.c) * z.c - (2 * p.d) * z.d by clear a1 a2 a3 a4 b1 b2 b3 b4 c1 c2 c3 c4 d1 d2 d3 d4; grind,
      show 2 * (x.a * q.a - x.b * q.b - x.c * q.c - x.d * q.d) = x.a * (2 * q.a) - x.b * (2 * q.b) - x.c * (2 * q.c) - x.d * (2 * q.d) by clear a1 a2 a3 a4 b1 b2 b3 b4 c1 c2 c3 c4 d1 d2 d3 d4; grind, ← a1, ← a2, ← a3, ← a4, ← b1, ← b2, ← b3, ← b4]
    clear a1 a2 a3 a4 b1 b2 b3 b4 c1 c2 c3 c4 d1 d2 d3 d4; grind
  · rw [show 4 * u.b = 2 * (2 * u.b) by omega, show 4 * v.b = 2 * (2 * v.b) by omega, ← c2, ← d2, show 2 * (p.a * z.b + p.b * z.a + p.c * z.d - p.d * z.c) = (2 * p.a) * z.b + (2 * p.b) * z.a + (2 * p.c) * z.d - (2 * p.d) * z.c by clear a1 a2 a3 a4 b1 b2 b3 b4 c1 c2 c3 c4 d1 d2 d3 d4; grind,
      show 2 * (x.a * q.b + x.b * q.a + x.c * q.d - x.d * q.c) = x.a * (2 * q.b) + x.b * (2 * q.a) + x.c * (2 * q.d) - x.d * (2 * q.c) by clear a1 a2 a3 a4 b1 b2 b3 b4 c1 c2 c3 c4 d1 d2 d3 d4; grind, ← a1, ← a2, ← a3, ← a4, ← b1, ← b2, ← b3, ← b4]
    clear a1 a2 a3 a4 b1 b2 b3 b4 c1 c2 c3 c4 d1 d2 d3 d4; grind
  · rw [show 4 * u.c = 2 * (2 * u.c) by omega, show 4 * v.c = 2 * (2 * v.c) by omega, ← c3, ← d3, show 2 * (p.a * z.c - p.b * z.d + p.c * z.a + p.d * z.b) = (2 * p.a) * z.c - (2 * p.b) * z.d + (2 * p.c) * z.a + (2 * p.d) * z.b by clear a1 a2 a3 a4 b1 b2 b3 b4 c1 c2 c3 c4 d1 d2 d3 d4; grind,
      show 2 * (x.a * q.c - x.b * q.d + x.c * q.a + x.d * q.b) = x.a * (2 * q.c) - x.b * (2 * q.d) + x.c * (2 * q.a) + x.d * (2 * q.b) by clear a1 a2 a3 a4 b1 b2 b3 b4 c1 c2 c3 c4 d1 d2 d3 d4; grind, ← a1, ← a2, ← a3, ← a4, ← b1, ← b2, ← b3, ← b4]
    clear a1 a2 a3 a4 b1 b2 b3 b4 c1 c2 c3 c4 d1 d2 d3 d4; grind
  · rw [show 4 * u.d = 2 * (2 * u.d) by omega, show 4 * v.d = 2 * (2 * v.d) by omega, ← c4, ← d4, show 2 * (p.a * z.d + p.b * z.c - p.c * z.b + p.d * z.a) = (2 * p.a) * z.d + (2 * p.b) * z.c - (2 * p.c) * z.b + (2 * p.d) * z.a by clear a1 a2 a3 a4 b1 b2 b3 b4 c1 c2 c3 c4 d1 d2 d3 d4; grind,
      show 2 * (x.a * q.d + x.b * q.c - x.c * q.b + x.d * q.a) = x.a * (2 * q.d) + x.b * (2 * q.c) - x.c * (2 * q.b) + x.d * (2 * q.a) by clear a1 a2 a3 a4 b1 b2 b3 b4 c1 c2 c3 c4 d1 d2 d3 d4; grind, ← a1, ← a2, ← a3, ← a4, ← b1, ← b2, ← b3, ← b4]
    clear a1 a2 a3 a4 b1 b2 b3 b4 c1 c2 c3 c4 d1 d2 d3 d4; grind
theorem nsq_mul {x y : Qt} (hx : x.Ok) (hy : y.Ok) : 4 * nsq (mul x y) = nsq x * nsq y := by
  have H := pr_mul hx hy
  generalize mul x y = z at *
  obtain ⟨a1, a2, a3, a4⟩ := H
  clear hx hy
  unfold nsq
  have : 4 * (z.a * z.a + z.b * z.b + z.c * z.c + z.d * z.d) = (2 * z.a) * (2 * z.a) + (2 * z.b) * (2 * z.b) + (2 * z.c) * (2 * z.c) + (2 * z.d) * (2 * z.d) := by grind
  rw [this, ← a1, ← a2, ← a3, ← a4]
  clear this a1 a2 a3 a4
  grind
theorem ok_conj {x : Qt} (h : x.Ok) : x.conj.Ok := by
  obtain ⟨h1, h2, h3⟩ := h
  exact ⟨by simp only [conj]; omega, by simp only [conj]; omega, by simp only [conj]; omega⟩
theorem ok_one : one.Ok := ⟨rfl, rfl, rfl⟩
theorem ok_zero : zero.Ok := ⟨rfl, rfl, rfl⟩
theorem mul_one (x : Qt) : mul x one = x := by
  obtain ⟨a, b, c, d⟩ := x
  simp only [mul, one]
  congr 1 <;> omega
theorem one_mul (x : Qt) : mul one x = x := by
  obtain ⟨a, b, c, d⟩ := x
  simp only [mul, one]
  congr 1 <;> omega
theorem ok_smul {x : Qt} (m : Int) (h : x.Ok) : (smul m x).Ok := by
  obtain ⟨a, k, l, n, rfl⟩ := h.ex
  have : smul m ⟨a, a + 2 * k, a + 2 * l, a + 2 * n⟩ = ⟨m * a, m * a + 2 * (m * k), m * a + 2 * (m * l), m * a + 2 * (m * n)⟩ := by
    simp only [smul]
    congr 1 <;> grind
  rw [this]
  exact ok_mk _ _ _ _
theorem smul_mul {x y : Qt} (m : Int) (hx : x.Ok) (hy : y.Ok) : mul (smul m x) y = smul m (mul x y) := by
  have H := pr_mul hx hy
  refine pr_eq ?_
  generalize mul x y = z at *
  obtain ⟨a1, a2, a3, a4⟩ := H
  refine ⟨?_, ?_, ?_, ?_⟩ <;> simp only [smul] <;> grind
theorem mul_smul {x y : Qt} (m : Int) (hx : x.Ok) (hy : y.Ok) : mul x (smul m y) = smul m (mul x y) := by
  have H := pr_mul hx hy
  refine pr_eq ?_
  generalize mul x y = z at *
  obtain ⟨a1, a2, a3, a4⟩ := H
  refine ⟨?_, ?_, ?_, ?_⟩ <;> simp only [smul] <;> grind
theorem ok_add {x y : Qt} (hx : x.Ok) (hy : y.Ok) : (add x y).Ok := by
  obtain ⟨h1, h2, h3⟩ := hx
  obtain ⟨g1, g2, g3⟩ := hy
  exact ⟨by simp only [add]; omega, by simp only [add]; omega, by simp only [add]; omega⟩
theorem ok_sub {x y : Qt} (hx : x.Ok) (hy : y.Ok) : (sub x y).Ok := by
  obtain ⟨h1, h2, h3⟩ := hx
  obtain ⟨g1, g2, g3⟩ := hy
  exact ⟨by simp only [sub]; omega, by simp only [sub]; omega, by simp only [sub]; omega⟩
theorem mul_add {x y z : Qt} (hx : x.Ok) (hy : y.Ok) (hz : z.Ok) : mul x (add y z) = add (mul x y) (mul x z) := by
  have H1 := pr_mul hx hy
  have H2 := pr_mul hx hz
  refine pr_eq ?_
  generalize mul x y = p at *
  generalize mul x z = q at *
  obtain ⟨a1, a2, a3, a4⟩ := H1
  obtain ⟨b1, b2, b3, b4⟩ := H2
  refine ⟨?_, ?_, ?_, ?_⟩ <;> simp only [add] <;> grind
theorem mul_sub {x y z : Qt} (hx : x.Ok) (hy : y.Ok) (hz : z.Ok) : mul x (sub y z) = sub (mul x y) (mul x z) := by
  have H1 := pr_mul hx hy
  have H2 := pr_mul hx hz
  refine pr_eq ?_
  generalize mul x y = p at *
  generalize mul x z = q at *
  obtain ⟨a1, a2, a3, a4⟩ := H1
  obtain ⟨b1, b2, b3, b4⟩ := H2
  refine ⟨?_, ?_, ?_, ?_⟩ <;> simp only [sub] <;> grind
theorem conj_mul {x y : Qt} (hx : x.Ok) (hy : y.Ok) : conj (mul x y) = mul (conj y) (conj x) := by
  have H := pr_mul hx hy
  refine (pr_eq ?_).symm
  generalize mul x y = z at *
  obtain ⟨a1, a2, a3, a4⟩ := H
  refine ⟨?_, ?_, ?_, ?_⟩ <;> simp only [conj] <;> grind
theorem conj_conj (x : Qt) : conj (conj x) = x := by
  obtain ⟨a, b, c, d⟩ := x
  simp [conj]
theorem nsq_conj (x : Qt) : nsq (conj x) = nsq x := by
  simp only [nsq, conj]; grind
/-- back times it: the size -/
theorem conj_self {x : Qt} (hx : x.Ok) : ∃ n, nsq x = 4 * n ∧ mul (conj x) x = ⟨2 * n, 0, 0, 0⟩ ∧ mul x (conj x) = ⟨2 * n, 0, 0, 0⟩ := by
  obtain ⟨a, k, l, m, rfl⟩ := hx.ex
  refine ⟨a * a + a * k + k * k + a * l + l * l + a * m + m * m, ?_, ?_, ?_⟩
  · simp only [nsq]; grind
  · refine pr_eq ⟨?_, ?_, ?_, ?_⟩ <;> simp only [conj] <;> grind
  · refine pr_eq ⟨?_, ?_, ?_, ?_⟩ <;> simp only [conj] <;> grind
theorem nsq_nonneg (x : Qt) : 0 ≤ nsq x := by
  have sq : ∀ t : Int, 0 ≤ t * t := fun t => by
    rcases Int.le_total 0 t with h | h
    · exact Int.mul_nonneg h h
    · have := Int.mul_nonneg (show 0 ≤ -t by omega) (show 0 ≤ -t by omega)
      rwa [Int.neg_mul_neg] at this
  have h1 := sq x.a
  have h2 := sq x.b
  have h3 := sq x.c
  have h4 := sq x.d
  unfold nsq
  omega
theorem nsq_zero {x : Qt} (h : nsq x = 0) : x = zero := by
  have sq : ∀ t : Int, 0 ≤ t * t := fun t => by
    rcases Int.le_total 0 t with h | h
    · exact Int.mul_nonneg h h
    · have := Int.mul_nonneg (show 0 ≤ -t by omega) (show 0 ≤ -t by omega)
      rwa [Int.neg_mul_neg] at this
  have h1 := sq x.a
  have h2 := sq x.b
  have h3 := sq x.c
  have h4 := sq x.d
  unfold nsq at h
  have z : ∀ t : Int, t * t = 0 → t = 0 := fun t h => by rcases Int.mul_eq_zero.mp h with h | h <;> exact h
  exact ext (z _ (by omega)) (z _ (by omega)) (z _ (by omega)) (z _ (by omega))
end Qt
open Qt
/-- the units, ascending -/
def U24 : List Qt := [⟨-2, 0, 0, 0⟩, ⟨-1, -1, -1, -1⟩, ⟨-1, -1, -1, 1⟩, ⟨-1, -1, 1, -1⟩, ⟨-1, -1, 1, 1⟩, ⟨-1, 1, -1, -1⟩, ⟨-1, 1, -1, 1⟩, ⟨-1, 1, 1, -1⟩, ⟨-1, 1, 1, 1⟩, ⟨0, -2, 0, 0⟩, ⟨0, 0, -2, 0⟩, ⟨0, 0, 0, -2⟩,
  ⟨0, 0, 0, 2⟩, ⟨0, 0, 2, 0⟩, ⟨0, 2, 0, 0⟩, ⟨1, -1, -1, -1⟩, ⟨1, -1, -1, 1⟩, ⟨1, -1, 1, -1⟩, ⟨1, -1, 1, 1⟩, ⟨1, 1, -1, -1⟩, ⟨1, 1, -1, 1⟩, ⟨1, 1, 1, -1⟩, ⟨1, 1, 1, 1⟩, ⟨2, 0, 0, 0⟩]
theorem u_ok {u : Qt} (h : u ∈ U24) : u.Ok := by
  have : ∀ u ∈ U24, (u.b - u.a) % 2 = 0 ∧ (u.c - u.a) % 2 = 0 ∧ (u.d - u.a) % 2 = 0 := by decide
  obtain ⟨h1, h2, h3⟩ := this u h
  exact ⟨h1, h2, h3⟩
theorem u_mul : ∀ u ∈ U24, ∀ v ∈ U24, mul u v ∈ U24 := by decide +kernel
theorem u_conj : ∀ u ∈ U24, conj u ∈ U24 ∧ mul u (conj u) = one ∧ mul (conj u) u = one := by decide +kernel
theorem u_nsq : ∀ u ∈ U24, nsq u = 4 := by decide +kernel
end Fq

set_option linter.all false
set_option autoImplicit false
set_option maxRecDepth 100000
/-! # The order of quads -/
namespace Fq
open PySem Fs Qt
def ltQ (x y : Qt) : Bool := if x.a = y.a then (if x.b = y.b then (if x.c = y.c then decide (x.d < y.d) else decide (x.c < y.c)) else decide (x.b < y.b)) else decide (x.a < y.a)
theorem dlt (x y : Qt) : PySem.W.dataLt x.D y.D = ltQ x y := by
  have al : ∀ i j : Int, PySem.W.alike (.int i) (.int j) = true := fun i j => by simp [PySem.W.alike]
  show PySem.W.dataLt (.tuple _) (.tuple _) = _
  rw [PySem.W.dataLt_tuple, PySem.W.dataLt_cons (al _ _), PySem.W.dataLt_cons (al _ _), PySem.W.dataLt_cons (al _ _), PySem.W.dataLt_cons (al _ _)]
  have e : PyProof.Rows.lexLt PyProof.Rows.itemOrd (PySem.W.keyToksAll []) (PySem.W.keyToksAll []) = false := PyProof.Rows.lex_irrefl _
  rw [e]
  simp only [PyData.eqv, beq_iff_eq, PySem.W.dataLt_int]
  unfold ltQ
  split
  · split
    · split
      · split
        · rename_i h; rw [h]; simp
        · rfl
      · rfl
    · rfl
  · rfl
theorem lt_irrefl (x : Qt) : ltQ x x = false := by unfold ltQ; simp
theorem lt_cases (x y : Qt) (h1 : ltQ x y = false) (h2 : ltQ y x = false) : x = y := by
  unfold ltQ at h1 h2
  by_cases ha : x.a = y.a
  · rw [if_pos ha] at h1; rw [if_pos ha.symm] at h2
    by_cases hb : x.b = y.b
    · rw [if_pos hb] at h1; rw [if_pos hb.symm] at h2
      by_cases hc : x.c = y.c
      · rw [if_pos hc] at h1; rw [if_pos hc.symm] at h2
        simp at h1 h2
        exact Qt.ext ha hb hc (by omega)
      · rw [if_neg hc] at h1; rw [if_neg (fun e => hc e.symm)] at h2
        simp at h1 h2; omega
    · rw [if_neg hb] at h1; rw [if_neg (fun e => hb e.symm)] at h2
      simp at h1 h2; omega
  · rw [if_neg ha] at h1; rw [if_neg (fun e => ha e.symm)] at h2
    simp at h1 h2; omega
theorem ltQ_iff {x y : Qt} : ltQ x y = true ↔ x.a < y.a ∨ (x.a = y.a ∧ (x.b < y.b ∨ (x.b = y.b ∧ (x.c < y.c ∨ (x.c = y.c ∧ x.d < y.d))))) := by
  unfold ltQ
  split
  · split
    · split
      · rw [decide_eq_true_eq]; omega
      · rw [decide_eq_true_eq]; omega
    · rw [decide_eq_true_eq]; omega
  · rw [decide_eq_true_eq]; omega
theorem lt_trans {x y z : Qt} (h1 : ltQ x y = true) (h2 : ltQ y z = true) : ltQ x z = true := by
  rw [ltQ_iff] at *
  omega
theorem lt_asymm {x y : Qt} (h1 : ltQ x y = true) : ltQ y x = false := by
  cases h : ltQ y x with
  | false => rfl
  | true => have := lt_trans h1 h; rw [lt_irrefl] at this; cases this
/-- the least -/
def minQ (x : Qt) (xs : List Qt) : Qt := xs.foldl (fun a y => if ltQ y a then y else a) x
def maxQ (x : Qt) (xs : List Qt) : Qt := xs.foldl (fun a y => if ltQ a y then y else a) x
theorem minD_D (xs : List Qt) : ∀ x : Qt, PySem.W.minD x.D (xs.map D) = (minQ x xs).D := by
  induction xs with
  | nil => exact fun x => rfl
  | cons y ys ih =>
    intro x
    have e : PySem.W.minD x.D ((y :: ys).map D) = PySem.W.minD (if PySem.W.dataLt y.D x.D = true then y.D else x.D) (ys.map D) := rfl
    have e2 : minQ x (y :: ys) = minQ (if ltQ y x = true then y else x) ys := rfl
    rw [e, e2, dlt]
    split <;> exact ih _
theorem maxD_D (xs : List Qt) : ∀ x : Qt, PySem.W.maxD x.D (xs.map D) = (maxQ x xs).D := by
  induction xs with
  | nil => exact fun x => rfl
  | cons y ys ih =>
    intro x
    have e : PySem.W.maxD x.D ((y :: ys).map D) = PySem.W.maxD (if PySem.W.dataLt x.D y.D = true then y.D else x.D) (ys.map D) := rfl
    have e2 : maxQ x (y :: ys) = maxQ (if ltQ x y = true then y else x) ys := rfl
    rw [e, e2, dlt]
    split <;> exact ih _
theorem minQ_spec (xs : List Qt) : ∀ x : Qt, minQ x xs ∈ x :: xs ∧ ∀ y ∈ x :: xs, ltQ y (minQ x xs) = false := by
  induction xs with
  | nil => intro x; exact ⟨List.mem_cons_self, fun y hy => by simp at hy; subst hy; exact lt_irrefl _⟩
  | cons z zs ih =>
    intro x
    have e2 : minQ x (z :: zs) = minQ (if ltQ z x = true then z else x) zs := rfl
    rw [e2]
    by_cases h : ltQ z x = true
    · rw [if_pos h]
      obtain ⟨h1, h2⟩ := ih z
      refine ⟨List.mem_cons_of_mem _ h1, fun y hy => ?_⟩
      rcases List.mem_cons.mp hy with rfl | hy
      · cases hq : ltQ y (minQ z zs) with
        | false => rfl
        | true => have := lt_trans h hq; rw [h2 z List.mem_cons_self] at this; cases this
      · exact h2 y hy
    · rw [if_neg h]
      obtain ⟨h1, h2⟩ := ih x
      refine ⟨?_, fun y hy => ?_⟩
      · rcases List.mem_cons.mp h1 with e | m
        · rw [e]; exact List.mem_cons_self
        · exact List.mem_cons_of_mem _ (List.mem_cons_of_mem _ m)
      · rcases List.mem_cons.mp hy with rfl | hy
        · exact h2 y List.mem_cons_self
        · rcases List.mem_cons.mp hy with rfl | hy
          · have hx := h2 x List.mem_cons_self
            cases hq : ltQ y (minQ x zs) with
            | false => rfl
            | true =>
              -- y < min, min ≤ x, not y < x
              have hf : ltQ y x = false := by simpa using h
              by_cases hxe : minQ x zs = x
              · rw [hxe, hf] at hq; cases hq
              · have : ltQ (minQ x zs) x = true := by
                  cases g : ltQ (minQ x zs) x with
                  | true => rfl
                  | false => exact absurd (lt_cases _ _ g hx) hxe
                rw [lt_trans hq this] at hf; cases hf
          · exact h2 y (List.mem_cons_of_mem _ hy)
theorem maxQ_spec (xs : List Qt) : ∀ x : Qt, maxQ x xs ∈ x :: xs ∧ ∀ y ∈ x :: xs, ltQ (maxQ x xs) y = false := by
  induction xs with
  | nil => intro x; exact ⟨List.mem_cons_self, fun y hy => by simp at hy; subst hy; exact lt_irrefl _⟩
  | cons z zs ih =>
    intro x
    have e2 : maxQ x (z :: zs) = maxQ (if ltQ x z = true then z else x) zs := rfl
    rw [e2]
    by_cases h : ltQ x z = true
    · rw [if_pos h]
      obtain ⟨h1, h2⟩ := ih z
      refine ⟨List.mem_cons_of_mem _ h1, fun y hy => ?_⟩
      rcases List.mem_cons.mp hy with rfl | hy
      · cases hq : ltQ (maxQ z zs) y with
        | false => rfl
        | true => have := lt_trans hq h; rw [h2 z List.mem_cons_self] at this; cases this
      · exact h2 y hy
    · rw [if_neg h]
      obtain ⟨h1, h2⟩ := ih x
      refine ⟨?_, fun y hy => ?_⟩
      · rcases List.mem_cons.mp h1 with e | m
        · rw [e]; exact List.mem_cons_self
        · exact List.mem_cons_of_mem _ (List.mem_cons_of_mem _ m)
      · rcases List.mem_cons.mp hy with rfl | hy
        · exact h2 y List.mem_cons_self
        · rcases List.mem_cons.mp hy with rfl | hy
          · have hx := h2 x List.mem_cons_self
            cases hq : ltQ (maxQ x zs) y with
            | false => rfl
            | true =>
              have hf : ltQ x y = false := by simpa using h
              by_cases hxe : maxQ x zs = x
              · rw [hxe, hf] at hq; cases hq
              · have : ltQ x (maxQ x zs) = true := by
                  cases g : ltQ x (maxQ x zs) with
                  | true => rfl
                  | false => exact absurd (lt_cases _ _ hx g) hxe
                rw [lt_trans this hq] at hf; cases hf
          · exact h2 y (List.mem_cons_of_mem _ hy)
/-- the least of the same things -/
theorem minQ_same {x y : Qt} {xs ys : List Qt} (h1 : ∀ z ∈ x :: xs, z ∈ y :: ys) (h2 : ∀ z ∈ y :: ys, z ∈ x :: xs) : minQ x xs = minQ y ys :=
  lt_cases _ _ ((minQ_spec ys y).2 _ (h1 _ (minQ_spec xs x).1)) ((minQ_spec xs x).2 _ (h2 _ (minQ_spec ys y).1))
theorem maxQ_same {x y : Qt} {xs ys : List Qt} (h1 : ∀ z ∈ x :: xs, z ∈ y :: ys) (h2 : ∀ z ∈ y :: ys, z ∈ x :: xs) : maxQ x xs = maxQ y ys :=
  lt_cases _ _ ((maxQ_spec xs x).2 _ (h2 _ (maxQ_spec ys y).1)) ((maxQ_spec ys y).2 _ (h1 _ (maxQ_spec xs x).1))
/-- lists of quads are alike, shaped -/
theorem alike_D (xs : List Qt) : alikeB (xs.map D) = true := by
  unfold alikeB
  rw [Bool.and_eq_true, List.all_eq_true, List.all_eq_true]
  refine ⟨fun d hd => ?_, fun d hd => ?_⟩
  · obtain ⟨x, _, rfl⟩ := List.mem_map.mp hd
    rw [List.all_eq_true]
    intro e he
    obtain ⟨y, _, rfl⟩ := List.mem_map.mp he
    simp [Qt.D, PySem.W.alike, PySem.W.alikeAll]
  · obtain ⟨x, _, rfl⟩ := List.mem_map.mp hd
    rfl
theorem sort_D (xs : List Qt) : sortB (xs.map D) = true := by
  unfold sortB
  rw [Bool.or_eq_true]
  left
  rw [List.all_eq_true]
  intro d hd
  obtain ⟨x, _, rfl⟩ := List.mem_map.mp hd
  rfl
theorem D_inj {x y : Qt} (h : x.D = y.D) : x = y := by
  obtain ⟨a, b, c, d⟩ := x
  obtain ⟨e, f, g, i⟩ := y
  simp [Qt.D] at h
  simp [h]
theorem eqv_D (x y : Qt) : PyData.eqv x.D y.D = decide (x = y) := by
  obtain ⟨a, b, c, d⟩ := x
  obtain ⟨e, f, g, i⟩ := y
  simp only [Qt.D, PyData.eqv, PyData.eqvAll, Bool.and_true]
  by_cases h : (⟨a, b, c, d⟩ : Qt) = ⟨e, f, g, i⟩
  · injection h with h1 h2 h3 h4
    subst h1 h2 h3 h4
    simp
  · rw [decide_eq_false h]
    have : ¬ (a = e ∧ b = f ∧ c = g ∧ d = i) := fun ⟨h1, h2, h3, h4⟩ => h (by rw [h1, h2, h3, h4])
    simpa using this
end Fq

set_option linter.all false
set_option autoImplicit false
set_option maxRecDepth 100000
/-! # Division of whole quads: plain mathematics -/
namespace Fq
open PySem Fs
open Qt
def near0 (num n : Int) : List Int := if num % (2 * n) < n then [2 * (num / (2 * n))] else if num % (2 * n) = n then [2 * (num / (2 * n)), 2 * (num / (2 * n)) + 2] else [2 * (num / (2 * n)) + 2]
def near1 (num n : Int) : List Int := if num % (2 * n) = 0 then [2 * (num / (2 * n)) - 1, 2 * (num / (2 * n)) + 1] else [2 * (num / (2 * n)) + 1]
theorem near_spec {num n : Int} (hn : 0 < n) : ∃ d, 0 ≤ d ∧ d ≤ n ∧ (∀ a ∈ near0 num n, a % 2 = 0 ∧ (num - n * a) * (num - n * a) = d * d) ∧ (∀ a ∈ near1 num n, a % 2 = 1 ∧ (num - n * a) * (num - n * a) = (n - d) * (n - d)) ∧ near0 num n ≠ [] ∧ near1 num n ≠ [] := by
  have h1 := Int.emod_nonneg num (show 2 * n ≠ 0 by omega)
  have h2 := Int.emod_lt_of_pos num (show 0 < 2 * n by omega)
  have h3 := Int.mul_ediv_add_emod num (2 * n)
  unfold near0 near1
  generalize num / (2 * n) = k at *
  generalize num % (2 * n) = t at *
  have e0 : num - n * (2 * k) = t := by rw [← h3]; grind
  have e2 : num - n * (2 * k + 2) = t - 2 * n := by rw [← h3]; grind
  have e1 : num - n * (2 * k + 1) = t - n := by rw [← h3]; grind
  have e3 : num - n * (2 * k - 1) = t + n := by rw [← h3]; grind
  clear h3
  have sq : ∀ x y : Int, x = -y → x * x = y * y := fun x y h => by rw [h, Int.neg_mul_neg]
  by_cases c1 : t < n
  · refine ⟨t, h1, by omega, ?_, ?_, ?_, ?_⟩
    · rw [if_pos c1]
      intro a ha
      simp only [List.mem_singleton] at ha
      subst ha
      exact ⟨by omega, by rw [e0]⟩
    · intro a ha
      by_cases c2 : t = 0
      · rw [if_pos c2] at ha
        simp only [List.mem_cons, List.not_mem_nil, or_false] at ha
        rcases ha with rfl | rfl
        · exact ⟨by omega, by rw [e3, c2]; simp⟩
        · exact ⟨by omega, by rw [e1]; exact sq _ _ (by omega)⟩
      · rw [if_neg c2] at ha
        simp only [List.mem_singleton] at ha
        subst ha
        exact ⟨by omega, by rw [e1]; exact sq _ _ (by omega)⟩
    · rw [if_pos c1]; simp
    · split <;> simp
  · refine ⟨2 * n - t, by omega, by omega, ?_, ?_, ?_, ?_⟩
    · rw [if_neg c1]
      intro a ha
      by_cases c2 : t = n
      · rw [if_pos c2] at ha
        simp only [List.mem_cons, List.not_mem_nil, or_false] at ha
        rcases ha with rfl | rfl
        · refine ⟨by omega, ?_⟩
          rw [e0]
          have : t = 2 * n - t := by omega
          rw [← this]
        · exact ⟨by omega, by rw [e2]; exact sq _ _ (by omega)⟩
      · rw [if_neg c2] at ha
        simp only [List.mem_singleton] at ha
        subst ha
        exact ⟨by omega, by rw [e2]; exact sq _ _ (by omega)⟩
    · intro a ha
      rw [if_neg (by omega)] at ha
      simp only [List.mem_singleton] at ha
      subst ha
      refine ⟨by omega, ?_⟩
      rw [e1]
      have : n - (2 * n - t) = t - n := by omega
      rw [this]
    · rw [if_neg c1]; split <;> simp
    · split <;> simp
def rows4 (as bs cs ds : List Int) : List Qt := as.flatMap fun a => bs.flatMap fun b => cs.flatMap fun c => ds.map fun d => ⟨a, b, c, d⟩
theorem mem_rows4 {as bs cs ds : List Int} {w : Qt} : w ∈ rows4 as bs cs ds ↔ w.a ∈ as ∧ w.b ∈ bs ∧ w.c ∈ cs ∧ w.d ∈ ds := by
  unfold rows4
  simp only [List.mem_flatMap, List.mem_map]
  constructor
  · rintro ⟨a, ha, b, hb, c, hc, d, hd, rfl⟩; exact ⟨ha, hb, hc, hd⟩
  · rintro ⟨ha, hb, hc, hd⟩; exact ⟨_, ha, _, hb, _, hc, _, hd, rfl⟩
/-- the candidates -/
def nears (q : Qt) (n : Int) : List Qt := rows4 (near0 q.a n) (near0 q.b n) (near0 q.c n) (near0 q.d n) ++ rows4 (near1 q.a n) (near1 q.b n) (near1 q.c n) (near1 q.d n)
theorem nears_ok {q : Qt} {n : Int} (hn : 0 < n) {w : Qt} (h : w ∈ nears q n) : w.Ok := by
  obtain ⟨_, _, _, a0, a1, _⟩ := near_spec (num := q.a) hn
  obtain ⟨_, _, _, b0, b1, _⟩ := near_spec (num := q.b) hn
  obtain ⟨_, _, _, c0, c1, _⟩ := near_spec (num := q.c) hn
  obtain ⟨_, _, _, d0, d1, _⟩ := near_spec (num := q.d) hn
  rcases List.mem_append.mp h with h | h
  · obtain ⟨h1, h2, h3, h4⟩ := mem_rows4.mp h
    have := (a0 _ h1).1; have := (b0 _ h2).1; have := (c0 _ h3).1; have := (d0 _ h4).1
    exact ⟨by omega, by omega, by omega⟩
  · obtain ⟨h1, h2, h3, h4⟩ := mem_rows4.mp h
    have := (a1 _ h1).1; have := (b1 _ h2).1; have := (c1 _ h3).1; have := (d1 _ h4).1
    exact ⟨by omega, by omega, by omega⟩
theorem part_le {n d : Int} (h0 : 0 ≤ d) (h1 : d ≤ n) : d * d + (n - d) * (n - d) ≤ n * n := by
  have : 0 ≤ d * (n - d) := Int.mul_nonneg h0 (by omega)
  have e : d * d + (n - d) * (n - d) = n * n - 2 * (d * (n - d)) := by grind
  omega
/-- one of the candidates is near -/
theorem nears_near (q : Qt) {n : Int} (hn : 0 < n) : ∃ w ∈ nears q n, nsq (sub q (smul n w)) ≤ 2 * (n * n) := by
  obtain ⟨da, a1, a2, a3, a4, a5, a6⟩ := near_spec (num := q.a) hn
  obtain ⟨db, b1, b2, b3, b4, b5, b6⟩ := near_spec (num := q.b) hn
  obtain ⟨dc, c1, c2, c3, c4, c5, c6⟩ := near_spec (num := q.c) hn
  obtain ⟨dd, d1, d2, d3, d4, d5, d6⟩ := near_spec (num := q.d) hn
  have pa := part_le a1 a2
  have pb := part_le b1 b2
  have pc := part_le c1 c2
  have pd := part_le d1 d2
  have ne : ∀ {l : List Int}, l ≠ [] → ∃ x, x ∈ l := fun {l} h => by
    cases l with
    | nil => exact absurd rfl h
    | cons x t => exact ⟨x, List.mem_cons_self⟩
  obtain ⟨xa, ha⟩ := ne a5
  obtain ⟨xb, hb⟩ := ne b5
  obtain ⟨xc, hc⟩ := ne c5
  obtain ⟨xd, hd⟩ := ne d5
  obtain ⟨ya, ka⟩ := ne a6
  obtain ⟨yb, kb⟩ := ne b6
  obtain ⟨yc, kc⟩ := ne c6
  obtain ⟨yd, kd⟩ := ne d6
  have s1 : nsq (sub q (smul n ⟨xa, xb, xc, xd⟩)) = da * da + db * db + dc * dc + dd * dd := by
    simp only [nsq, sub, smul, (a3 _ ha).2, (b3 _ hb).2, (c3 _ hc).2, (d3 _ hd).2]
  have s2 : nsq (sub q (smul n ⟨ya, yb, yc, yd⟩)) = (n - da) * (n - da) + (n - db) * (n - db) + (n - dc) * (n - dc) + (n - dd) * (n - dd) := by
    simp only [nsq, sub, smul, (a4 _ ka).2, (b4 _ kb).2, (c4 _ kc).2, (d4 _ kd).2]
  by_cases h : da * da + db * db + dc * dc + dd * dd ≤ 2 * (n * n)
  · exact ⟨_, List.mem_append_left _ (mem_rows4.mpr ⟨ha, hb, hc, hd⟩), by rw [s1]; exact h⟩
  · exact ⟨_, List.mem_append_right _ (mem_rows4.mpr ⟨ka, kb, kc, kd⟩), by rw [s2]; omega⟩
/-- a multiple is found -/
theorem nears_exact {n : Int} (hn : 0 < n) {w : Qt} (hw : w.Ok) : w ∈ nears (smul n w) n := by
  have ev : ∀ a : Int, a % 2 = 0 → a ∈ near0 (n * a) n := fun a h => by
    obtain ⟨k, rfl⟩ : ∃ k, a = 2 * k := ⟨a / 2, by omega⟩
    have e : n * (2 * k) = 2 * n * k := by grind
    unfold near0
    rw [e, Int.mul_emod_right, Int.mul_ediv_cancel_left _ (by omega), if_pos hn]
    simp
  have od : ∀ a : Int, a % 2 = 1 → a ∈ near1 (n * a) n := fun a h => by
    obtain ⟨k, rfl⟩ : ∃ k, a = 2 * k + 1 := ⟨a / 2, by omega⟩
    have e : n * (2 * k + 1) = n + 2 * n * k := by grind
    have e1 : (n + 2 * n * k) % (2 * n) = n := by
      rw [Int.add_mul_emod_self_left]
      exact Int.emod_eq_of_lt (by omega) (by omega)
    have e2 : (n + 2 * n * k) / (2 * n) = k := by
      rw [Int.add_mul_ediv_left _ _ (by omega), Int.ediv_eq_zero_of_lt (by omega) (by omega), Int.zero_add]
    unfold near1
    rw [e, e1, e2, if_neg (by omega)]
    simp
  obtain ⟨h1, h2, h3⟩ := hw
  by_cases h : w.a % 2 = 0
  · exact List.mem_append_left _ (mem_rows4.mpr ⟨ev _ h, ev _ (by omega), ev _ (by omega), ev _ (by omega)⟩)
  · exact List.mem_append_right _ (mem_rows4.mpr ⟨od _ (by omega), od _ (by omega), od _ (by omega), od _ (by omega)⟩)
theorem one_smul_mul (n : Int) {w : Qt} (hw : w.Ok) : mul ⟨2 * n, 0, 0, 0⟩ w = smul n w := by
  refine pr_eq ⟨?_, ?_, ?_, ?_⟩ <;> simp only [smul] <;> grind
theorem mul_one_smul (n : Int) {w : Qt} (hw : w.Ok) : mul w ⟨2 * n, 0, 0, 0⟩ = smul n w := by
  refine pr_eq ⟨?_, ?_, ?_, ?_⟩ <;> simp only [smul] <;> grind
theorem sub_mul {x y z : Qt} (hx : x.Ok) (hy : y.Ok) (hz : z.Ok) : mul (sub x y) z = sub (mul x z) (mul y z) := by
  have H1 := pr_mul hx hz
  have H2 := pr_mul hy hz
  refine pr_eq ?_
  generalize mul x z = p at *
  generalize mul y z = q at *
  obtain ⟨a1, a2, a3, a4⟩ := H1
  obtain ⟨b1, b2, b3, b4⟩ := H2
  refine ⟨?_, ?_, ?_, ?_⟩ <;> simp only [sub] <;> grind
/-- the rest's size by the candidate -/
theorem left_rest {x o w : Qt} {n : Int} (hx : x.Ok) (ho : o.Ok) (hw : w.Ok) (hn : nsq o = 4 * n) : nsq (sub (mul (conj o) x) (smul n w)) = n * nsq (sub x (mul o w)) := by
  obtain ⟨n', e1, e2, _⟩ := conj_self ho
  have : n' = n := by omega
  subst this
  have how := ok_mul ho hw
  have h : mul (conj o) (sub x (mul o w)) = sub (mul (conj o) x) (smul n' w) := by
    rw [mul_sub (ok_conj ho) hx how, ← mul_assoc (ok_conj ho) ho hw, e2, one_smul_mul n' hw]
  have k := nsq_mul (ok_conj ho) (ok_sub hx how)
  rw [h, nsq_conj, hn] at k
  generalize nsq (sub (mul (conj o) x) (smul n' w)) = A at *
  generalize nsq (sub x (mul o w)) = B at *
  have : 4 * A = 4 * (n' * B) := by rw [k]; grind
  omega
theorem right_rest {x o w : Qt} {n : Int} (hx : x.Ok) (ho : o.Ok) (hw : w.Ok) (hn : nsq o = 4 * n) : nsq (sub (mul x (conj o)) (smul n w)) = n * nsq (sub x (mul w o)) := by
  obtain ⟨n', e1, _, e2⟩ := conj_self ho
  have : n' = n := by omega
  subst this
  have how := ok_mul hw ho
  have h : mul (sub x (mul w o)) (conj o) = sub (mul x (conj o)) (smul n' w) := by
    rw [sub_mul hx how (ok_conj ho), mul_assoc hw ho (ok_conj ho), e2, mul_one_smul n' hw]
  have k := nsq_mul (ok_sub hx how) (ok_conj ho)
  rw [h, nsq_conj, hn] at k
  generalize nsq (sub (mul x (conj o)) (smul n' w)) = A at *
  generalize nsq (sub x (mul w o)) = B at *
  have : 4 * A = 4 * (n' * B) := by rw [k]; grind
  omega
theorem mul_cancel_left {o v w : Qt} {n : Int} (ho : o.Ok) (hv : v.Ok) (hw : w.Ok) (hn : nsq o = 4 * n) (h0 : n ≠ 0) (h : mul o v = mul o w) : v = w := by
  obtain ⟨n', e1, e2, _⟩ := conj_self ho
  have : n' = n := by omega
  subst this
  have k : smul n' v = smul n' w := by
    rw [← one_smul_mul n' hv, ← one_smul_mul n' hw, ← e2, mul_assoc (ok_conj ho) ho hv, mul_assoc (ok_conj ho) ho hw, h]
  unfold smul at k
  injection k with k1 k2 k3 k4
  have c : ∀ a b : Int, n' * a = n' * b → a = b := fun a b h => Int.eq_of_mul_eq_mul_left h0 h
  exact Qt.ext (c _ _ k1) (c _ _ k2) (c _ _ k3) (c _ _ k4)
theorem sub_self_zero {x y : Qt} (h : nsq (sub x y) = 0) : x = y := by
  have := nsq_zero h
  unfold sub zero at this
  injection this with h1 h2 h3 h4
  exact Qt.ext (by omega) (by omega) (by omega) (by omega)
/-- the candidate of least rest: half the size at most; exact where that can be -/
theorem left_choice {x o w : Qt} {n : Int} (hx : x.Ok) (ho : o.Ok) (hn : nsq o = 4 * n) (h0 : 0 < n) (hw : w ∈ nears (mul (conj o) x) n) (hmin : ∀ v ∈ nears (mul (conj o) x) n, nsq (sub x (mul o w)) ≤ nsq (sub x (mul o v))) :
    w.Ok ∧ 2 * nsq (sub x (mul o w)) ≤ nsq o ∧ ∀ v : Qt, v.Ok → x = mul o v → w = v := by
  have hwo := nears_ok h0 hw
  refine ⟨hwo, ?_, fun v hv e => ?_⟩
  · obtain ⟨v, hv, hle⟩ := nears_near (mul (conj o) x) h0
    have := hmin v hv
    rw [left_rest hx ho (nears_ok h0 hv) hn] at hle
    have k : n * nsq (sub x (mul o v)) ≤ n * (2 * n) := by
      have : 2 * (n * n) = n * (2 * n) := by grind
      omega
    have := Int.le_of_mul_le_mul_left k h0
    omega
  · have hm : v ∈ nears (mul (conj o) x) n := by
      have eq_ : mul (conj o) x = smul n v := by
        obtain ⟨n', e1, e2, _⟩ := conj_self ho
        have : n' = n := by omega
        subst this
        rw [e, ← mul_assoc (ok_conj ho) ho hv, e2, one_smul_mul n' hv]
      rw [eq_]
      exact nears_exact h0 hv
    have h1 := hmin v hm
    have z : nsq (sub x (mul o v)) = 0 := by
      rw [← e]; simp [nsq, sub]
    have h2 := nsq_nonneg (sub x (mul o w))
    have h3 := sub_self_zero (x := x) (y := mul o w) (by omega)
    exact mul_cancel_left ho hwo hv hn (by omega) (by rw [← h3, ← e])
end Fq

set_option linter.all false
set_option autoImplicit false
set_option maxRecDepth 100000
namespace Fq
open PySem Fs
open Qt
theorem mul_cancel_right {o v w : Qt} {n : Int} (ho : o.Ok) (hv : v.Ok) (hw : w.Ok) (hn : nsq o = 4 * n) (h0 : n ≠ 0) (h : mul v o = mul w o) : v = w := by
  obtain ⟨n', e1, _, e2⟩ := conj_self ho
  have : n' = n := by omega
  subst this
  have k : smul n' v = smul n' w := by
    rw [← mul_one_smul n' hv, ← mul_one_smul n' hw, ← e2, ← mul_assoc hv ho (ok_conj ho), ← mul_assoc hw ho (ok_conj ho), h]
  unfold smul at k
  injection k with k1 k2 k3 k4
  have c : ∀ a b : Int, n' * a = n' * b → a = b := fun a b h => Int.eq_of_mul_eq_mul_left h0 h
  exact Qt.ext (c _ _ k1) (c _ _ k2) (c _ _ k3) (c _ _ k4)
/-- the candidate of least rest: half the size at most; exact where that can be -/
theorem right_choice {x o w : Qt} {n : Int} (hx : x.Ok) (ho : o.Ok) (hn : nsq o = 4 * n) (h0 : 0 < n) (hw : w ∈ nears (mul x (conj o)) n) (hmin : ∀ v ∈ nears (mul x (conj o)) n, nsq (sub x (mul w o)) ≤ nsq (sub x (mul v o))) :
    w.Ok ∧ 2 * nsq (sub x (mul w o)) ≤ nsq o ∧ ∀ v : Qt, v.Ok → x = mul v o → w = v := by
  have hwo := nears_ok h0 hw
  refine ⟨hwo, ?_, fun v hv e => ?_⟩
  · obtain ⟨v, hv, hle⟩ := nears_near (mul x (conj o)) h0
    have := hmin v hv
    rw [right_rest hx ho (nears_ok h0 hv) hn] at hle
    have k : n * nsq (sub x (mul v o)) ≤ n * (2 * n) := by
      have : 2 * (n * n) = n * (2 * n) := by grind
      omega
    have := Int.le_of_mul_le_mul_left k h0
    omega
  · have hm : v ∈ nears (mul x (conj o)) n := by
      have eq_ : mul x (conj o) = smul n v := by
        obtain ⟨n', e1, _, e2⟩ := conj_self ho
        have : n' = n := by omega
        subst this
        rw [e, mul_assoc hv ho (ok_conj ho), e2, mul_one_smul n' hv]
      rw [eq_]
      exact nears_exact h0 hv
    have h1 := hmin v hm
    have z : nsq (sub x (mul v o)) = 0 := by
      rw [← e]; simp [nsq, sub]
    have h2 := nsq_nonneg (sub x (mul w o))
    have h3 := sub_self_zero (x := x) (y := mul w o) (by omega)
    exact mul_cancel_right ho hwo hv hn (by omega) (by rw [← h3, ← e])
end Fq

set_option linter.all false
set_option autoImplicit false
set_option maxRecDepth 100000
/-! # Left divisors of prime size: plain mathematics -/
namespace Fq
open PySem Fs
open Qt
theorem nsq_add_smul {y b : Qt} (hy : y.Ok) (hb : b.Ok) (p : Int) : ∃ k, nsq (add y (smul p b)) = nsq y + 4 * (p * k) := by
  obtain ⟨n, en, _⟩ := conj_self hb
  obtain ⟨a, k, l, m, rfl⟩ := hy.ex
  obtain ⟨e, s, t, r, rfl⟩ := hb.ex
  refine ⟨2 * (a * e) + a * s + a * t + a * r + k * e + l * e + m * e + 2 * (k * s) + 2 * (l * t) + 2 * (m * r) + p * n, ?_⟩
  have en' : e * e + (e + 2 * s) * (e + 2 * s) + (e + 2 * t) * (e + 2 * t) + (e + 2 * r) * (e + 2 * r) = 4 * n := en
  have : 4 * (p * (2 * (a * e) + a * s + a * t + a * r + k * e + l * e + m * e + 2 * (k * s) + 2 * (l * t) + 2 * (m * r) + p * n)) = 4 * (p * (2 * (a * e) + a * s + a * t + a * r + k * e + l * e + m * e + 2 * (k * s) + 2 * (l * t) + 2 * (m * r))) + p * p * (4 * n) := by grind
  rw [this, ← en']
  simp only [nsq, add, smul]
  clear en en' this
  grind
/-- p divides the quad -/
def Dv (p : Int) (x : Qt) : Prop := ∃ y : Qt, y.Ok ∧ x = smul p y
theorem p_mul (p : Int) {y : Qt} (hy : y.Ok) : mul ⟨2 * p, 0, 0, 0⟩ y = smul p y := one_smul_mul p hy
theorem ok_p (p : Int) : Ok ⟨2 * p, 0, 0, 0⟩ := ⟨by simp only []; omega, by simp only []; omega, by simp only []; omega⟩
/-- sizes -/
theorem size_mul {x y : Qt} (hx : x.Ok) (hy : y.Ok) {n m : Int} (e1 : nsq x = 4 * n) (e2 : nsq y = 4 * m) : nsq (mul x y) = 4 * (n * m) := by
  have h := nsq_mul hx hy
  rw [e1, e2] at h
  have : 4 * nsq (mul x y) = 4 * (4 * (n * m)) := by rw [h]; grind
  omega
/-- a common left divisor of x and p that is made of both has size p: where p divides the size of x, not x -/
theorem gcd_size {x g a b s t : Qt} {p n : Int} (hp : 1 < p) (pr : ∀ c d : Int, 0 ≤ c → 0 ≤ d → c * d = p * p → c = 1 ∨ c = p ∨ d = 1) (hx : x.Ok) (hg : g.Ok) (ha : a.Ok) (hb : b.Ok) (hs : s.Ok) (ht : t.Ok)
    (e1 : x = mul g s) (e2 : (⟨2 * p, 0, 0, 0⟩ : Qt) = mul g t) (e3 : g = add (mul x a) (mul ⟨2 * p, 0, 0, 0⟩ b)) (hn : nsq x = 4 * (p * n)) (nd : ¬ Dv p x) : nsq g = 4 * p := by
  obtain ⟨ng, eg, _, _⟩ := conj_self hg
  obtain ⟨nt, et, ft, ft2⟩ := conj_self ht
  obtain ⟨na, ea, _⟩ := conj_self ha
  have g0 : 0 ≤ ng := by have := nsq_nonneg g; omega
  have t0 : 0 ≤ nt := by have := nsq_nonneg t; omega
  have hpp : nsq (⟨2 * p, 0, 0, 0⟩ : Qt) = 4 * (p * p) := by simp only [nsq]; grind
  have hm := size_mul hg ht eg et
  rw [← e2, hpp] at hm
  rcases pr ng nt g0 t0 (by omega) with h | h | h
  · -- g a unit: its size is a multiple of p
    exfalso
    have hxa := size_mul hx ha hn ea
    rw [p_mul p hb] at e3
    obtain ⟨k, ek⟩ := nsq_add_smul (ok_mul hx ha) hb p
    rw [← e3, eg, h, hxa] at ek
    have : p * (n * na + k) = 1 := by
      have : p * (n * na + k) = p * n * na + p * k := by grind
      omega
    have h1 : p ∣ 1 := ⟨_, this.symm⟩
    have := Int.le_of_dvd (by decide) h1
    omega
  · rw [eg, h]
  · -- t a unit: p divides x
    exfalso
    refine nd ⟨mul (conj t) s, ok_mul (ok_conj ht) hs, ?_⟩
    have gt : g = mul (smul p (conj t)) Qt.one := by
      rw [Qt.mul_one, ← p_mul p (ok_conj ht), e2, mul_assoc hg ht (ok_conj ht), ft2, h]
      exact (Qt.mul_one g).symm
    rw [Qt.mul_one] at gt
    rw [e1, ← smul_mul p (ok_conj ht) hs, ← gt]
/-- a left divisor of size p is the common one, up to a unit behind -/
theorem gcd_only {x g f a b s' t' : Qt} {p : Int} (hp : 0 < p) (hx : x.Ok) (hf : f.Ok) (ha : a.Ok) (hb : b.Ok) (hs : s'.Ok) (ht : t'.Ok) (e3 : g = add (mul x a) (mul ⟨2 * p, 0, 0, 0⟩ b)) (hg : nsq g = 4 * p) (hfp : nsq f = 4 * p)
    (d1 : x = mul f s') (d2 : (⟨2 * p, 0, 0, 0⟩ : Qt) = mul f t') : ∃ u : Qt, u.Ok ∧ nsq u = 4 ∧ g = mul f u := by
  have h1 : g = mul f (add (mul s' a) (mul t' b)) := by
    rw [mul_add hf (ok_mul hs ha) (ok_mul ht hb), ← mul_assoc hf hs ha, ← mul_assoc hf ht hb, ← d1, ← d2]
    exact e3
  have hok := ok_add (ok_mul hs ha) (ok_mul ht hb)
  obtain ⟨nu, eu, _⟩ := conj_self hok
  have h := size_mul hf hok hfp eu
  rw [← h1, hg] at h
  refine ⟨_, hok, ?_, h1⟩
  have k : p * nu = p * 1 := by omega
  have := Int.eq_of_mul_eq_mul_left (by omega) k
  rw [eu, this]
  rfl
/-- quads of size 1 are the units -/
theorem unit_mem {u : Qt} (hu : u.Ok) (h : nsq u = 4) : u ∈ U24 := by
  have sq : ∀ t : Int, 0 ≤ t * t := fun t => by
    rcases Int.le_total 0 t with h | h
    · exact Int.mul_nonneg h h
    · exact Int.mul_nonneg_of_nonpos_of_nonpos h h
  have rg : ∀ t : Int, t * t ≤ 4 → t = -2 ∨ t = -1 ∨ t = 0 ∨ t = 1 ∨ t = 2 := fun t h => by
    have : -2 ≤ t := by
      refine Int.not_lt.mp fun g => ?_
      have := Int.mul_le_mul (show (3 : Int) ≤ -t by omega) (show (3 : Int) ≤ -t by omega) (by decide) (by omega)
      rw [Int.neg_mul_neg] at this
      omega
    have : t ≤ 2 := by
      refine Int.not_lt.mp fun g => ?_
      have := Int.mul_le_mul (show (3 : Int) ≤ t by omega) (show (3 : Int) ≤ t by omega) (by decide) (by omega)
      omega
    omega
  obtain ⟨a, b, c, d⟩ := u
  have h1 := sq a
  have h2 := sq b
  have h3 := sq c
  have h4 := sq d
  have h' : a * a + b * b + c * c + d * d = 4 := h
  obtain ⟨p1, p2, p3⟩ := hu
  simp only at p1 p2 p3
  have key : ∀ a ∈ [(-2 : Int), -1, 0, 1, 2], ∀ b ∈ [(-2 : Int), -1, 0, 1, 2], ∀ c ∈ [(-2 : Int), -1, 0, 1, 2], ∀ d ∈ [(-2 : Int), -1, 0, 1, 2], a * a + b * b + c * c + d * d = 4 → (b - a) % 2 = 0 → (c - a) % 2 = 0 → (d - a) % 2 = 0 → (⟨a, b, c, d⟩ : Qt) ∈ U24 := by decide +kernel
  exact key a (by simpa using rg a (by omega)) b (by simpa using rg b (by omega)) c (by simpa using rg c (by omega)) d (by simpa using rg d (by omega)) h' p1 p2 p3
end Fq

set_option linter.all false
set_option autoImplicit false
set_option maxRecDepth 100000
set_option maxHeartbeats 1600000
/-! # What divides a quad: plain mathematics -/
namespace Fq
open PySem Fs
open Qt
def shr (x : Qt) : Nat := Nat.gcd (Nat.gcd x.a.natAbs x.b.natAbs) (Nat.gcd x.c.natAbs x.d.natAbs)
theorem shr_dvd (x : Qt) : (shr x : Int) ∣ x.a ∧ (shr x : Int) ∣ x.b ∧ (shr x : Int) ∣ x.c ∧ (shr x : Int) ∣ x.d := by
  have h1 : shr x ∣ Nat.gcd x.a.natAbs x.b.natAbs := Nat.gcd_dvd_left _ _
  have h2 : shr x ∣ Nat.gcd x.c.natAbs x.d.natAbs := Nat.gcd_dvd_right _ _
  exact ⟨Int.ofNat_dvd_left.mpr (Nat.dvd_trans h1 (Nat.gcd_dvd_left _ _)), Int.ofNat_dvd_left.mpr (Nat.dvd_trans h1 (Nat.gcd_dvd_right _ _)), Int.ofNat_dvd_left.mpr (Nat.dvd_trans h2 (Nat.gcd_dvd_left _ _)), Int.ofNat_dvd_left.mpr (Nat.dvd_trans h2 (Nat.gcd_dvd_right _ _))⟩
theorem dvd_shr {x : Qt} {p : Nat} (h1 : (p : Int) ∣ x.a) (h2 : (p : Int) ∣ x.b) (h3 : (p : Int) ∣ x.c) (h4 : (p : Int) ∣ x.d) : p ∣ shr x :=
  Nat.dvd_gcd (Nat.dvd_gcd (Int.ofNat_dvd_left.mp h1) (Int.ofNat_dvd_left.mp h2)) (Nat.dvd_gcd (Int.ofNat_dvd_left.mp h3) (Int.ofNat_dvd_left.mp h4))
theorem shr_pos {x : Qt} (h : nsq x ≠ 0) : 0 < shr x := by
  refine Nat.pos_of_ne_zero fun z => h ?_
  obtain ⟨h1, h2, h3, h4⟩ := shr_dvd x
  rw [z] at h1 h2 h3 h4
  have e : ∀ i : Int, ((0 : Nat) : Int) ∣ i → i = 0 := fun i h => Int.zero_dvd.mp h
  rw [show nsq x = x.a * x.a + x.b * x.b + x.c * x.c + x.d * x.d from rfl, e _ h1, e _ h2, e _ h3, e _ h4]
  rfl
/-- the content -/
def cont (x : Qt) : Int := if x.a / shr x % 2 = 1 ∧ x.b / shr x % 2 = 1 ∧ x.c / shr x % 2 = 1 ∧ x.d / shr x % 2 = 1 then (shr x : Int) else (shr x : Int) / 2
theorem odd_mul (a b : Int) : a * b % 2 = (a % 2) * (b % 2) % 2 := Int.mul_emod a b 2
theorem cont_iff {x : Qt} {p : Nat} (hx : x.Ok) (h0 : nsq x ≠ 0) (hp : 0 < p) : cont x % p = 0 ↔ Dv p x := by
  have sp := shr_pos h0
  obtain ⟨⟨f, ea⟩, ⟨g, eb⟩, ⟨h, ec⟩, ⟨k, ed⟩⟩ := shr_dvd x
  have noteven : ¬ (f % 2 = 0 ∧ g % 2 = 0 ∧ h % 2 = 0 ∧ k % 2 = 0) := by
    rintro ⟨z1, z2, z3, z4⟩
    have tw : ∀ {i j : Int}, i = (shr x : Int) * j → j % 2 = 0 → ((2 * shr x : Nat) : Int) ∣ i := fun {i j} e z => by
      obtain ⟨l, rfl⟩ : ∃ l, j = 2 * l := ⟨j / 2, by omega⟩
      exact ⟨l, by rw [e]; push_cast; rw [Int.mul_comm 2 (shr x : Int), Int.mul_assoc]⟩
    have := Nat.le_of_dvd sp (dvd_shr (tw ea z1) (tw eb z2) (tw ec z3) (tw ed z4))
    omega
  have par : ∀ t : Int, (t % 2 = 1) → ((t * g - t * f) % 2 = 0 ∧ (t * h - t * f) % 2 = 0 ∧ (t * k - t * f) % 2 = 0) → f % 2 = 1 ∧ g % 2 = 1 ∧ h % 2 = 1 ∧ k % 2 = 1 := fun t ht ⟨q1, q2, q3⟩ => by
    have r := fun i => odd_mul t i
    have r1 := r f
    have r2 := r g
    have r3 := r h
    have r4 := r k
    rw [ht, Int.one_mul] at r1 r2 r3 r4
    omega
  have sne : (shr x : Int) ≠ 0 := by omega
  have df : ∀ {i j : Int}, i = (shr x : Int) * j → i / shr x = j := fun {i j} e => by rw [e]; exact Int.mul_ediv_cancel_left _ sne
  have hcont : cont x = if f % 2 = 1 ∧ g % 2 = 1 ∧ h % 2 = 1 ∧ k % 2 = 1 then (shr x : Int) else (shr x : Int) / 2 := by
    unfold cont; rw [df ea, df eb, df ec, df ed]
  rw [hcont]
  obtain ⟨o1, o2, o3⟩ := hx
  rw [ea] at o1 o2 o3
  rw [eb] at o1
  rw [ec] at o2
  rw [ed] at o3
  generalize hs : (shr x : Int) = s at *
  constructor
  · intro hc
    by_cases c : f % 2 = 1 ∧ g % 2 = 1 ∧ h % 2 = 1 ∧ k % 2 = 1
    · rw [if_pos c] at hc
      obtain ⟨t, et⟩ := Int.dvd_of_emod_eq_zero hc
      have r := fun i => odd_mul t i
      refine ⟨⟨t * f, t * g, t * h, t * k⟩, ⟨?_, ?_, ?_⟩, Qt.ext ?_ ?_ ?_ ?_⟩
      · have := r f; have := r g; simp only; rw [c.1] at *; rw [c.2.1] at *; omega
      · have := r f; have := r h; simp only; rw [c.1] at *; rw [c.2.2.1] at *; omega
      · have := r f; have := r k; simp only; rw [c.1] at *; rw [c.2.2.2] at *; omega
      · simp only [smul]; rw [ea, et, Int.mul_assoc]
      · simp only [smul]; rw [eb, et, Int.mul_assoc]
      · simp only [smul]; rw [ec, et, Int.mul_assoc]
      · simp only [smul]; rw [ed, et, Int.mul_assoc]
    · rw [if_neg c] at hc
      have se : s % 2 = 0 := by
        by_cases z : s % 2 = 0
        · exact z
        · exact absurd (par s (by omega) ⟨o1, o2, o3⟩) c
      obtain ⟨t, et⟩ := Int.dvd_of_emod_eq_zero hc
      have es : s = p * (2 * t) := by
        have : s = 2 * (s / 2) := by omega
        rw [this, et]; grind
      refine ⟨⟨2 * t * f, 2 * t * g, 2 * t * h, 2 * t * k⟩, ⟨?_, ?_, ?_⟩, Qt.ext ?_ ?_ ?_ ?_⟩
      · simp only; rw [Int.mul_assoc, Int.mul_assoc]; omega
      · simp only; rw [Int.mul_assoc, Int.mul_assoc]; omega
      · simp only; rw [Int.mul_assoc, Int.mul_assoc]; omega
      · simp only [smul]; rw [ea, es, Int.mul_assoc]
      · simp only [smul]; rw [eb, es, Int.mul_assoc]
      · simp only [smul]; rw [ec, es, Int.mul_assoc]
      · simp only [smul]; rw [ed, es, Int.mul_assoc]
  · rintro ⟨y, hy, ey⟩
    have y1 : x.a = p * y.a := congrArg Qt.a ey
    have y2 : x.b = p * y.b := congrArg Qt.b ey
    have y3 : x.c = p * y.c := congrArg Qt.c ey
    have y4 : x.d = p * y.d := congrArg Qt.d ey
    obtain ⟨t0, et0⟩ := dvd_shr (p := p) ⟨_, y1⟩ ⟨_, y2⟩ ⟨_, y3⟩ ⟨_, y4⟩
    have et : s = p * (t0 : Int) := by rw [← hs, et0]; push_cast; rfl
    have pne : (p : Int) ≠ 0 := by omega
    have can : ∀ {i j q : Int}, i = s * j → i = p * q → q = t0 * j := fun {i j q} e1 e2 => Int.eq_of_mul_eq_mul_left pne (by rw [← e2, e1, et, Int.mul_assoc])
    have c1 := can ea y1
    have c2 := can eb y2
    have c3 := can ec y3
    have c4 := can ed y4
    by_cases c : f % 2 = 1 ∧ g % 2 = 1 ∧ h % 2 = 1 ∧ k % 2 = 1
    · rw [if_pos c, et]; exact Int.mul_emod_right _ _
    · rw [if_neg c]
      have te : (t0 : Int) % 2 = 0 := by
        by_cases z : (t0 : Int) % 2 = 0
        · exact z
        · obtain ⟨q1, q2, q3⟩ := hy
          rw [c1] at q1 q2 q3
          rw [c2] at q1
          rw [c3] at q2
          rw [c4] at q3
          exact absurd (par t0 (by omega) ⟨q1, q2, q3⟩) c
      obtain ⟨l, el⟩ : ∃ l, (t0 : Int) = 2 * l := ⟨(t0 : Int) / 2, by omega⟩
      have : s / 2 = p * l := by
        have : s = 2 * (p * l) := by rw [et, el]; grind
        omega
      rw [this]; exact Int.mul_emod_right _ _
end Fq

set_option linter.all false
set_option autoImplicit false
set_option maxRecDepth 100000
set_option exponentiation.threshold 2000
set_option maxHeartbeats 2000000
namespace Fw
open PySem Fs Fq Qt

theorem ev_is_number (i : Int) : m_is_number [.int i] = .ret (.bool true) := by simp [m_is_number, S_is_number]
theorem pow50 : vPow D_FIFTY_DIGITS (.int 4) = .ret (.int (10 ^ 200)) := by
  have h : (0 : Int) ≤ 4 ∧ (Builtin.Int.intBits (10 ^ 50) : Int) * 4 ≤ 2 ^ 27 := by decide +kernel
  exact if_pos (e := .bad) h
theorem ev_is_short (i : Int) [Bd 600 i] : m_is_short [.int i] = .ret (.bool true) := by
  simp [m_is_short, S_is_short, ev_is_number, pow50, pLt, pow_lt_short]
theorem ev_is_quad_of (a b c d : Int) [Bd 600 a] [Bd 600 b] [Bd 600 c] [Bd 600 d] (hb : (b - a) % 2 = 0) (hc : (c - a) % 2 = 0) (hd : (d - a) % 2 = 0) : m_is_quad_of [q4 a b c d] = .ret (.bool true) := by
  simp [m_is_quad_of, S_is_quad_of, ev_is_short, D_PARTS, hb, hc, hd]
theorem ev_need_quad (a b c d : Int) [Bd 600 a] [Bd 600 b] [Bd 600 c] [Bd 600 d] (hb : (b - a) % 2 = 0) (hc : (c - a) % 2 = 0) (hd : (d - a) % 2 = 0) : m_need_quad [q4 a b c d] = .ret .none := by
  simp [m_need_quad, S_need_quad, ev_is_quad_of a b c d hb hc hd]
theorem ev_product_by (a b c d e f g h : Int) [Bd 600 a] [Bd 600 b] [Bd 600 c] [Bd 600 d] [Bd 600 e] [Bd 600 f] [Bd 600 g] [Bd 600 h] :
  m_product_by [q4 a b c d, q4 e f g h] =
   .ret (q4 ((a * e - b * f - c * g - d * h) / 2) ((a * f + b * e + c * h - d * g) / 2) ((a * g - b * h + c * e + d * f) / 2) ((a * h + b * g - c * f + d * e) / 2)) := by
  simp [m_product_by, S_product_by, vMul_a]
structure Qd (a b c d : Int) : Prop where
  ba : Bd 600 a
  bb : Bd 600 b
  bc : Bd 600 c
  bd : Bd 600 d
  hb : (b - a) % 2 = 0
  hc : (c - a) % 2 = 0
  hd : (d - a) % 2 = 0
theorem par {a b : Int} (h : (b - a) % 2 = 0) : ∃ k, b = a + 2 * k := ⟨(b - a) / 2, by omega⟩
structure Pr (a b c d e f g h p q r s : Int) : Prop where
  h1 : a * e - b * f - c * g - d * h = 2 * p
  h2 : a * f + b * e + c * h - d * g = 2 * q
  h3 : a * g - b * h + c * e + d * f = 2 * r
  h4 : a * h + b * g - c * f + d * e = 2 * s
theorem pr_sz {a b c d e f g h p q r s : Int} (H : Pr a b c d e f g h p q r s) : 4 * (p * p + q * q + r * r + s * s) = (a * a + b * b + c * c + d * d) * (e * e + f * f + g * g + h * h) := by
  obtain ⟨h1, h2, h3, h4⟩ := H
  have : 4 * (p * p + q * q + r * r + s * s) = (2 * p) * (2 * p) + (2 * q) * (2 * q) + (2 * r) * (2 * r) + (2 * s) * (2 * s) := by grind
  rw [this, ← h1, ← h2, ← h3, ← h4]
  clear this h1 h2 h3 h4
  grind
abbrev Five (q : Int) : Prop := q = 3 ∨ q = 5 ∨ q = 7 ∨ q = 11 ∨ q = 13
theorem lcGo_filter {g : DTg} {t : DT} {f : DE} {env : Fs.Env} (p : D → Bool) : ∀ {items : List D}, (∀ d ∈ items, ∃ e1, g d env = .ret e1 ∧ t e1 = .ret (p d) ∧ f e1 = .ret d ∧ flatD d = true) → lcGo g t f items env = .ret (items.filter p)
  | [], _ => rfl
  | d :: ds, h => by
    obtain ⟨e1, h1, h2, h3, h4⟩ := h d List.mem_cons_self
    have ih := lcGo_filter (items := ds) p fun d hd => h d (List.mem_cons_of_mem _ hd)
    rw [r_lc1, h1, Cm.ret_bind, h2, Cm.ret_bind, ih]
    cases hp : p d with
    | true => simp [h3, h4, hp]
    | false => simp [hp]
theorem rng_mem {lo : Int} {n : Nat} {d : D} : d ∈ rng lo n ↔ ∃ i : Nat, i < n ∧ d = .int (lo + i) := by
  unfold rng
  rw [List.mem_map]
  constructor
  · rintro ⟨i, hi, rfl⟩
    exact ⟨i, by simpa using hi, rfl⟩
  · rintro ⟨i, hi, rfl⟩
    exact ⟨i, by simpa using hi, rfl⟩
theorem inv_ex {q r : Int} (hq : Five q) (hr : r % q ≠ 0) : ∃ n : Int, 1 ≤ n ∧ n < q ∧ n * r % q = 1 := by
  have key : ∀ q : Nat, q ∈ [3, 5, 7, 11, 13] → ∀ r : Nat, r < q → r ≠ 0 → ∃ n : Nat, n < q ∧ 1 ≤ n ∧ n * r % q = 1 := by decide
  have h0 : ∃ m : Nat, q = m ∧ m ∈ [3, 5, 7, 11, 13] := by
    rcases hq with rfl | rfl | rfl | rfl | rfl
    · exact ⟨3, rfl, by decide⟩
    · exact ⟨5, rfl, by decide⟩
    · exact ⟨7, rfl, by decide⟩
    · exact ⟨11, rfl, by decide⟩
    · exact ⟨13, rfl, by decide⟩
  obtain ⟨m, rfl, hm⟩ := h0
  have hp : 0 < (m : Int) := by
    rcases hq with h | h | h | h | h <;> omega
  have h1 := Int.emod_nonneg r (Int.ne_of_gt hp)
  have h2 := Int.emod_lt_of_pos r hp
  obtain ⟨n, n1, n2, n3⟩ := key m hm (r % m).toNat (by omega) (by omega)
  refine ⟨n, by omega, by omega, ?_⟩
  have e : ((n * (r % m).toNat % m : Nat) : Int) = 1 := by rw [n3]; rfl
  rw [Int.natCast_emod, Int.natCast_mul, Int.toNat_of_nonneg h1] at e
  rw [Int.mul_emod] at e
  rw [Int.mul_emod]
  rw [Int.emod_emod_of_dvd _ (Int.dvd_refl _)] at e
  exact e
theorem cg_mul {q x y z w : Int} (h : x % q = y % q) (h' : z % q = w % q) : (x * z) % q = (y * w) % q := by rw [Int.mul_emod, h, h', ← Int.mul_emod]
theorem cg_add {q x y z w : Int} (h : x % q = y % q) (h' : z % q = w % q) : (x + z) % q = (y + w) % q := by rw [Int.add_emod, h, h', ← Int.add_emod]
theorem cg_sub {q x y z w : Int} (h : x % q = y % q) (h' : z % q = w % q) : (x - z) % q = (y - w) % q := by rw [Int.sub_emod, h, h', ← Int.sub_emod]
theorem cg_mod (q x : Int) : x % q % q = x % q := Int.emod_emod_of_dvd _ (Int.dvd_refl _)
theorem inv_cg {q u v S S' : Int} (h : u * S % q = 1) (h' : v * S' % q = 1) (hs : S % q = S' % q) : u % q = v % q := by
  have h1 : 1 % q = 1 := by rw [← h]; exact cg_mod q _
  have hu : u * (v * S') % q = u * 1 % q := cg_mul rfl (by rw [h', h1])
  have hv : v * (u * S) % q = v * 1 % q := cg_mul rfl (by rw [h, h1])
  have e : u * (v * S') % q = v * (u * S) % q := by
    rw [show u * (v * S') = (u * v) * S' by rw [Int.mul_assoc], show v * (u * S) = (u * v) * S by rw [← Int.mul_assoc, Int.mul_comm v u]]
    exact cg_mul rfl hs.symm
  rw [Int.mul_one] at hu hv
  rw [← hu, ← hv, e]
@[simp] theorem r_chain (g g' : D → D → Cm D) (f1 f2 f3 : DE) (env : Fs.Env) : dChain g g' f1 f2 f3 env = (f1 env).bind fun x => (f2 env).bind fun y => (g x y).bind fun z => match z with
  | .bool b => if b = true then (f3 env).bind fun w => g' y w else .ret (.bool false)
  | _ => .bad := by unfold dChain; rfl
structure Bq (k : Nat) (x : Qt) : Prop where
  a : Bd k x.a
  b : Bd k x.b
  c : Bd k x.c
  d : Bd k x.d
theorem Bq.mono {k l : Nat} {x : Qt} (h : Bq k x) (hk : k ≤ l) : Bq l x := ⟨h.a.mono hk, h.b.mono hk, h.c.mono hk, h.d.mono hk⟩
theorem bd_ediv2 {k : Nat} {i : Int} [Bd k i] : Bd (k + 1) (i / 2) := ⟨by
  have := (inferInstance : Bd k i).lt
  rw [Nat.pow_succ]
  omega⟩
theorem Bq.mul {k l : Nat} {x y : Qt} (h : Bq k x) (g : Bq l y) : Bq (k + l + (k + l) + 1 + (k + l) + 1 + (k + l) + 1 + 1) (mul x y) := by
  haveI := h.a
  haveI := h.b
  haveI := h.c
  haveI := h.d
  haveI := g.a
  haveI := g.b
  haveI := g.c
  haveI := g.d
  exact ⟨bd_ediv2, bd_ediv2, bd_ediv2, bd_ediv2⟩
theorem bq_of {k n : Nat} {x : Qt} (hn : n < 2 ^ k) (h : x.a.natAbs ≤ n ∧ x.b.natAbs ≤ n ∧ x.c.natAbs ≤ n ∧ x.d.natAbs ≤ n) : Bq k x := by
  obtain ⟨h1, h2, h3, h4⟩ := h
  exact ⟨⟨by omega⟩, ⟨by omega⟩, ⟨by omega⟩, ⟨by omega⟩⟩
theorem u_bq {u : Qt} (h : u ∈ U24) : Bq 2 u := by
  have : ∀ u ∈ U24, u.a.natAbs ≤ 2 ∧ u.b.natAbs ≤ 2 ∧ u.c.natAbs ≤ 2 ∧ u.d.natAbs ≤ 2 := by decide +kernel
  exact bq_of (by decide) (this u h)
theorem ev_prodby {x y : Qt} (h : Bq 600 x) (g : Bq 600 y) : m_product_by [x.D, y.D] = .ret (mul x y).D := by
  haveI := h.a
  haveI := h.b
  haveI := h.c
  haveI := h.d
  haveI := g.a
  haveI := g.b
  haveI := g.c
  haveI := g.d
  exact ev_product_by x.a x.b x.c x.d y.a y.b y.c y.d
theorem lcGo_map {g : DTg} {t : DT} {f : DE} {env : Fs.Env} (R : D → D) : ∀ {items : List D}, (∀ d ∈ items, ∃ e1, g d env = .ret e1 ∧ t e1 = .ret true ∧ f e1 = .ret (R d) ∧ flatD (R d) = true) → lcGo g t f items env = .ret (items.map R)
  | [], _ => rfl
  | d :: ds, h => by
    obtain ⟨e1, h1, h2, h3, h4⟩ := h d List.mem_cons_self
    have ih := lcGo_map (items := ds) R fun d hd => h d (List.mem_cons_of_mem _ hd)
    rw [r_lc1, h1, Cm.ret_bind, h2, Cm.ret_bind, if_pos rfl, h3, Cm.ret_bind, if_pos h4, ih]
    rfl
theorem lc_run {fi : DEs} {g : DTg} {t : DT} {f : DE} {vs : List Nat} {env : Fs.Env} {items ys : List D} (h1 : fi env = .ret items) (h2 : items.length < 1000000) (h3 : lcGo g t f items (wipeE env vs) = .ret ys) : dOnlyL (dLc fi g t f vs) env = .ret (.list ys) := by
  rw [r_onlyL, r_lc, h1, Cm.ret_bind, if_pos h2, h3]; rfl
@[simp] theorem r_rng2 (fs : DEs) (env : Fs.Env) : dRng2 fs env = (fs env).bind fun ds => match ds with
  | [.int i, .int j] => if -4611686018427387904 ≤ i ∧ i < 4611686018427387904 ∧ -4611686018427387904 ≤ j ∧ j < 4611686018427387904 then .ret (rng i (j - i).toNat) else .bad
  | _ => .bad := by unfold dRng2; rfl
theorem canLay_Ds : ∀ xs : List Qt, PyData.canLayAll0 (xs.map D) = true
  | [] => rfl
  | x :: r => by simp [PyData.canLayAll0, PyData.canLay0, canLay_Ds r, Qt.D]
theorem depth_Ds : ∀ xs : List Qt, PyData.depthAll (xs.map D) ≤ 2
  | [] => by simp [PyData.depthAll]
  | x :: r => by
    have := depth_Ds r
    simp only [List.map_cons, PyData.depthAll]
    have e : PyData.depth x.D = 1 := rfl
    omega
theorem shaped_Ds (xs : List Qt) : SeqAt.shaped (.list (xs.map D)) = true := by
  have h := depth_Ds xs
  refine Bool.and_eq_true_iff.mpr ⟨?_, decide_eq_true ?_⟩
  · simp only [PyData.canLay0, canLay_Ds]
  · simp only [PyData.depth]; omega
theorem shaped_Dt (xs : List Qt) : SeqAt.shaped (.tuple (xs.map D)) = true := by
  have h := depth_Ds xs
  refine Bool.and_eq_true_iff.mpr ⟨?_, decide_eq_true ?_⟩
  · simp only [PyData.canLay0, canLay_Ds]
  · simp only [PyData.depth]; omega
theorem seq_nx {s1 s2 : DS} {env env' : Fs.Env} {P : Out → Prop} (h : s1 env = .ret (.nx env')) (k : (s2 env').AllS P) : (dSeq s1 s2 env).AllS P := by
  rw [r_seq, h]; exact k
theorem seq_all {s1 s2 : DS} {env : Fs.Env} {P : Out → Prop} (R : Fs.Env → Prop) (h : (s1 env).AllS fun o => ∃ e, o = .nx e ∧ R e) (k : ∀ e, R e → (s2 e).AllS P) : (dSeq s1 s2 env).AllS P := by
  rw [r_seq, Cm.alls_bind]
  exact h.mono fun o ⟨e, he, hr⟩ => by subst he; exact k e hr
theorem set_all {i : Nat} {f : DE} {env : Fs.Env} {R : Fs.Env → Prop} (h : (f env).AllS fun d => R (env.set i (.val d))) : (dSet i f env).AllS fun o => ∃ e, o = .nx e ∧ R e := by
  rw [r_set, Cm.alls_bind]
  exact h.mono fun d hd => ⟨_, rfl, hd⟩
theorem forGo_all {g : DTg} {s : DS} {Inv : Fs.Env → Prop} {P : D → Prop} : ∀ {items : List D} {env : Fs.Env}, Inv env → (∀ d ∈ items, ∀ e, Inv e → (g d e).AllS fun e1 => (s e1).AllS fun o => match o with | .nx e => Inv e | .ct e => Inv e | .bk e => Inv e | .rt d => P d) →
    (forGo g s items env).AllS fun o => match o with | .nx e => Inv e | .rt d => P d | _ => False
  | [], env, h, _ => ⟨h⟩
  | d :: ds, env, h, k => by
    rw [r_for1, Cm.alls_bind]
    refine (k d List.mem_cons_self env h).mono fun e1 h1 => ?_
    rw [Cm.alls_bind]
    refine h1.mono fun o ho => ?_
    cases o with
    | nx e => exact forGo_all ho fun d hd => k d (List.mem_cons_of_mem _ hd)
    | ct e => exact forGo_all ho fun d hd => k d (List.mem_cons_of_mem _ hd)
    | bk e => exact ⟨ho⟩
    | rt d => exact ⟨ho⟩
theorem lcGo_each {g : DTg} {t : DT} {f : DE} {env : Fs.Env} (R : D → Prop) : ∀ {items : List D}, (∀ d ∈ items, ∃ e1, g d env = .ret e1 ∧ t e1 = .ret true ∧ (f e1).AllS fun y => flatD y = true ∧ R y) → (lcGo g t f items env).AllS fun ys => ys.length = items.length ∧ ∀ y ∈ ys, R y
  | [], _ => ⟨⟨rfl, fun y hy => by cases hy⟩⟩
  | d :: ds, h => by
    obtain ⟨e1, h1, h2, h3⟩ := h d List.mem_cons_self
    rw [r_lc1, h1, Cm.ret_bind, h2, Cm.ret_bind, if_pos rfl, Cm.alls_bind]
    refine h3.mono fun y ⟨hy, hr⟩ => ?_
    rw [if_pos hy, Cm.alls_bind]
    refine (lcGo_each R (items := ds) fun d hd => h d (List.mem_cons_of_mem _ hd)).mono fun ys ⟨l, hys⟩ => ⟨by simp [l], fun z hz => ?_⟩
    rcases List.mem_cons.mp hz with rfl | hz
    · exact hr
    · exact hys z hz
theorem call1 (g : List D → Cm D) {f : DE} {env : Fs.Env} {d : D} (h : f env = .ret d) : dCallN 1 g (dCons f dNil) env = g [d] := by simp [h]
theorem call2 (g : List D → Cm D) {f f2 : DE} {env : Fs.Env} {d d2 : D} (h : f env = .ret d) (h2 : f2 env = .ret d2) : dCallN 2 g (dCons f (dCons f2 dNil)) env = g [d, d2] := by simp [h, h2]
theorem call3 (g : List D → Cm D) {f f2 f3 : DE} {env : Fs.Env} {d d2 d3 : D} (h : f env = .ret d) (h2 : f2 env = .ret d2) (h3 : f3 env = .ret d3) : dCallN 3 g (dCons f (dCons f2 (dCons f3 dNil))) env = g [d, d2, d3] := by simp [h, h2, h3]
theorem ifs_no {t : DT} {s1 : DS} {E : Fs.Env} (h : t E = .ret false) : dIfS t s1 dSkip E = .ret (.nx E) := by
  rw [r_ifS, h]; rfl
theorem tru_b {f : DE} {E : Fs.Env} {b : Bool} (h : f E = .ret (.bool b)) : dTru f E = .ret b := by rw [r_tru, h]; rfl
theorem or_no {t u : DT} {E : Fs.Env} (h : t E = .ret false) (h2 : u E = .ret false) : dOrT t u E = .ret false := by rw [r_orT, h]; exact h2
theorem op2 {g : D → D → Cm D} {f1 f2 : DE} {E : Fs.Env} {d1 d2 : D} (h : f1 E = .ret d1) (h2 : f2 E = .ret d2) : dOp g f1 f2 E = g d1 d2 := by rw [r_op, h, Cm.ret_bind, h2, Cm.ret_bind]
theorem set_nx {i : Nat} {f : DE} {E : Fs.Env} {d : D} (h : f E = .ret d) : dSet i f E = .ret (.nx (E.set i (.val d))) := by rw [r_set, h]; rfl

/-! ## nearest, near quads -/
theorem min_ii (a b : Int) : cMinL [.list [.int a, .int b]] = .ret (.int (if b < a then b else a)) := by
  have e : cMinL [.list [.int a, .int b]] = if SeqAt.shaped (.list [.int a, .int b]) = true ∧ alikeB [.int a, .int b] = true then .ret (PySem.W.minD (.int a) [.int b]) else .bad := rfl
  have h1 : SeqAt.shaped (.list [.int a, .int b]) = true := rfl
  have h2 : alikeB [.int a, .int b] = true := by simp [alikeB, PySem.W.alike, isNone]
  rw [e, if_pos ⟨h1, h2⟩]
  have : PySem.W.minD (.int a) [.int b] = if PySem.W.dataLt (.int b) (.int a) = true then .int b else .int a := rfl
  rw [this, PySem.W.dataLt_int]
  by_cases h : b < a <;> simp [h]
@[simp] theorem r_zipM (fs : DEs) (env : Fs.Env) : dZipM fs env = (fs env).bind fun ds => match ds with | [.tuple a, .list b] => .ret (zip2 a b) | _ => .bad := by unfold dZipM; rfl
theorem log_bd {n : Int} [b : Bd 3000 n] : (2 * n).natAbs.log2 < 9000 := by
  by_cases z : (2 * n).natAbs = 0
  · rw [z]; decide
  · have h := (inferInstance : Bd (2 + 3000) (2 * n)).lt
    have := (Nat.log2_lt z).mpr h
    omega
theorem ev_near (num n rest low : Int) (hn : 0 < n) [Bd 3000 num] [Bd 3000 n] [Bd 2 rest] [Bd 4000 low] (hlow : (num - rest * n) / (2 * n) * 2 + rest = low) (h0 : 0 ≤ num - low * n) (h1 : num - low * n < 2 * n) :
    m_nearest [.int num, .int n, .int rest] = .ret (.list ((if num - low * n < n then [low] else if num - low * n = n then [low, low + 2] else [low + 2]).map .int)) := by
  have hl := log_bd (n := n)
  have h2 : 0 < 2 * n := by omega
  have a0 : (if low * n - num < 0 then -(low * n - num) else low * n - num) = num - low * n := by split <;> omega
  have e2 : (low + 2) * n = low * n + 2 * n := by grind
  have a1 : (if (low + 2) * n - num < 0 then -((low + 2) * n - num) else (low + 2) * n - num) = 2 * n - (num - low * n) := by rw [e2]; split <;> omega
  haveI : Bd 9000 ((num - rest * n) / (2 * n)) := ⟨by
    have h3 := (inferInstance : Bd (3000 + (2 + 3000) + 1) (num - rest * n)).lt
    have h4 : ((num - rest * n) / (2 * n)).natAbs ≤ (num - rest * n).natAbs := Int.natAbs_ediv_le_natAbs _ _
    have h5 : (2 : Nat) ^ (3000 + (2 + 3000) + 1) ≤ 2 ^ 9000 := Nat.pow_le_pow_right (by decide) (by decide)
    exact Nat.lt_of_le_of_lt h4 (Nat.lt_of_lt_of_le h3 h5)⟩
  simp [m_nearest, S_nearest, vMul_a, h2, hl, hlow, a0, a1, min_ii, zip2]
  generalize num - low * n = t at *
  have c1 : (2 * n - t < t → t = 2 * n - t) ↔ t ≤ n := ⟨fun h => by
    by_cases g : 2 * n - t < t
    · have := h g; omega
    · omega, fun h g => by omega⟩
  have c2 : (t ≤ 2 * n - t → 2 * n - t = t) ↔ n ≤ t := ⟨fun h => by
    by_cases g : t ≤ 2 * n - t
    · have := h g; omega
    · omega, fun h g => by omega⟩
  simp only [c1, c2]
  by_cases k1 : t < n
  · rw [if_pos (by omega), if_neg (by omega), if_pos k1]; rfl
  · by_cases k2 : t = n
    · rw [if_pos (by omega), if_pos (by omega), if_neg k1, if_pos k2]; rfl
    · rw [if_neg (by omega), if_pos (by omega), if_neg k1, if_neg k2]; rfl
theorem low_bd {n num k : Int} (hn : 0 < n) [b : Bd 3000 num] (h0 : 0 ≤ num - k * n) (h1 : num - k * n < 2 * n) : Bd 4000 k := ⟨by
  have hb := b.lt
  have hk : k.natAbs ≤ num.natAbs + 2 := by
    have hk1 : k * n ≤ num := by omega
    have hk2 : num < (k + 2) * n := by
      have : (k + 2) * n = k * n + 2 * n := by grind
      omega
    by_cases kp : 0 ≤ k
    · have : k * 1 ≤ k * n := Int.mul_le_mul_of_nonneg_left (by omega) kp
      omega
    · by_cases kq : k + 2 ≤ 0
      · have : (k + 2) * n ≤ (k + 2) * 1 := Int.mul_le_mul_of_nonpos_left kq (by omega)
        omega
      · omega
  have h5 : (2 : Nat) ^ 3000 + 2 ≤ 2 ^ 4000 := by
    have a : (2 : Nat) ^ 3001 ≤ 2 ^ 4000 := Nat.pow_le_pow_right (by decide) (by decide)
    have c : (2 : Nat) ^ 1 ≤ 2 ^ 3000 := Nat.pow_le_pow_right (by decide) (by decide)
    have d : (2 : Nat) ^ 3001 = 2 ^ 3000 * 2 := Nat.pow_succ ..
    generalize (2 : Nat) ^ 3001 = u at *
    generalize (2 : Nat) ^ 3000 = v at *
    generalize (2 : Nat) ^ 4000 = w at *
    omega
  generalize (2 : Nat) ^ 3000 = v at *
  generalize (2 : Nat) ^ 4000 = w at *
  omega⟩
theorem ev_near0 (num n : Int) (hn : 0 < n) [Bd 3000 num] [Bd 3000 n] : m_nearest [.int num, .int n, .int 0] = .ret (.list ((near0 num n).map .int)) := by
  have h1 := Int.emod_nonneg num (show 2 * n ≠ 0 by omega)
  have h2 := Int.emod_lt_of_pos num (show 0 < 2 * n by omega)
  have h3 := Int.mul_ediv_add_emod num (2 * n)
  have e : num - 2 * (num / (2 * n)) * n = num % (2 * n) := by
    have : 2 * (num / (2 * n)) * n = 2 * n * (num / (2 * n)) := by grind
    omega
  haveI : Bd 4000 (2 * (num / (2 * n))) := low_bd (n := n) (num := num) hn (by rw [e]; exact h1) (by rw [e]; exact h2)
  haveI : Bd 2 (0 : Int) := ⟨by decide⟩
  have := ev_near num n 0 (2 * (num / (2 * n))) hn (by rw [Int.zero_mul, Int.sub_zero]; omega) (by rw [e]; exact h1) (by rw [e]; exact h2)
  rw [this, e]
  rfl
theorem ev_near1 (num n : Int) (hn : 0 < n) [Bd 3000 num] [Bd 3000 n] : m_nearest [.int num, .int n, .int 1] = .ret (.list ((near1 num n).map .int)) := by
  have h1 := Int.emod_nonneg num (show 2 * n ≠ 0 by omega)
  have h2 := Int.emod_lt_of_pos num (show 0 < 2 * n by omega)
  have h3 := Int.mul_ediv_add_emod num (2 * n)
  unfold near1
  generalize hk : num / (2 * n) = k at *
  generalize ht : num % (2 * n) = t at *
  have e2 : 2 * n * k = 2 * k * n := by grind
  have pos : ∀ j r : Int, 0 ≤ r → r < 2 * n → num - n = r + 2 * n * j → (num - 1 * n) / (2 * n) = j := fun j r g1 g2 g => by
    rw [Int.one_mul, g, Int.add_mul_ediv_left _ _ (by omega), Int.ediv_eq_zero_of_lt g1 g2, Int.zero_add]
  by_cases c : n ≤ t
  · have hd := pos k (t - n) (by omega) (by omega) (by omega)
    have e3 : (2 * k + 1) * n = 2 * k * n + n := by grind
    haveI : Bd 4000 (2 * k + 1) := low_bd (n := n) (num := num) hn (by rw [e3]; omega) (by rw [e3]; omega)
    haveI : Bd 2 (1 : Int) := ⟨by decide⟩
    have := ev_near num n 1 (2 * k + 1) hn (by rw [hd]; omega) (by rw [e3]; omega) (by rw [e3]; omega)
    rw [this, if_pos (by rw [e3]; omega), if_neg (by omega)]
  · have e4 : 2 * n * (k - 1) = 2 * k * n - 2 * n := by grind
    have hd := pos (k - 1) (t + n) (by omega) (by omega) (by omega)
    have e3 : (2 * k - 1) * n = 2 * k * n - n := by grind
    haveI : Bd 4000 (2 * k - 1) := low_bd (n := n) (num := num) hn (by rw [e3]; omega) (by rw [e3]; omega)
    haveI : Bd 2 (1 : Int) := ⟨by decide⟩
    have := ev_near num n 1 (2 * k - 1) hn (by rw [hd]; omega) (by rw [e3]; omega) (by rw [e3]; omega)
    rw [this, if_neg (by rw [e3]; omega)]
    by_cases z : t = 0
    · rw [if_pos (by rw [e3]; omega), if_pos z]
      have : 2 * k - 1 + 2 = 2 * k + 1 := by omega
      rw [this]
    · rw [if_neg (by rw [e3]; omega), if_neg z]
      have : 2 * k - 1 + 2 = 2 * k + 1 := by omega
      rw [this]
end Fw

set_option linter.all false
set_option autoImplicit false
set_option maxRecDepth 100000
set_option exponentiation.threshold 2000
set_option maxHeartbeats 2000000
namespace Fw
open PySem Fs Fq Qt
/-! ## near quads -/
def tD (row : List Int) : D := .tuple (row.map .int)
def nx (rows : List (List Int)) (ns : List Int) : List (List Int) := rows.flatMap fun row => ns.map fun a => row ++ [a]
theorem nx_len (rows : List (List Int)) (ns : List Int) : (nx rows ns).length = rows.length * ns.length := by
  unfold nx
  induction rows with
  | nil => simp
  | cons r t ih => rw [List.flatMap_cons, List.length_append, ih, List.length_map, List.length_cons, Nat.succ_mul, Nat.add_comm]
abbrev nv (q n : D) (x2 x3 x4 x5 x6 x7 : Slot) : Fs.Env := [.val q, .val n, x2, x3, x4, x5, x6, x7]
abbrev LC : DE := dLc2 (dItems (dVar 4)) (gN 6) dYes (dItems (dCallN 3 m_nearest (dCons (dVar 5) (dCons (dVar 1) (dCons (dVar 3) dNil))))) (gN 7) dYes (dTupF (dStar (dVar 6) (dCons (dVar 7) dNil))) [6, 7] [7]
theorem tup_one (row : List Int) (a : Int) (hr : row.length ≤ 10) (q n : D) (x2 x3 x4 x5 : Slot) : dTupF (dStar (dVar 6) (dCons (dVar 7) dNil)) (nv q n x2 x3 x4 x5 (.val (tD row)) (.val (.int a))) = .ret (tD (row ++ [a])) := by
  have e : dStar (dVar 6) (dCons (dVar 7) dNil) (nv q n x2 x3 x4 x5 (.val (tD row)) (.val (.int a))) = .ret (row.map PyData.int ++ [.int a]) := rfl
  rw [r_tupF, e, Cm.ret_bind, if_pos ⟨by simp; omega, by rw [List.all_append]; simp [flatD]⟩]
  unfold tD
  rw [List.map_append]
  rfl
theorem in_go (row : List Int) (hr : row.length ≤ 10) (q n : D) (x2 x3 x4 x5 : Slot) : ∀ (ns : List Int) (o : Slot), lcGo (gN 7) dYes (dTupF (dStar (dVar 6) (dCons (dVar 7) dNil))) (ns.map .int) (nv q n x2 x3 x4 x5 (.val (tD row)) o) = .ret ((ns.map fun a => row ++ [a]).map tD)
  | [], _ => rfl
  | a :: t, o => by
    have ih := in_go row hr q n x2 x3 x4 x5 t o
    have e0 : (nv q n x2 x3 x4 x5 (.val (tD row)) o).set 7 (.val (.int a)) = nv q n x2 x3 x4 x5 (.val (tD row)) (.val (.int a)) := rfl
    rw [List.map_cons, r_lc1, r_gN, Cm.ret_bind, r_yes, Cm.ret_bind, if_pos rfl, e0, tup_one row a hr, Cm.ret_bind, if_pos (show flatD (tD (row ++ [a])) = true from rfl), ih]
    rfl
theorem out_go {num rest n : D} {ns : List Int} (hn : m_nearest [num, n, rest] = .ret (.list (ns.map .int))) (hl : ns.length ≤ 2) (q : D) (x2 x4 : Slot) : ∀ (rows : List (List Int)) (k : Nat) (o6 : Slot), (∀ r ∈ rows, r.length ≤ 10) → k + 2 * rows.length ≤ 1000000 →
    lcGo2 (gN 6) dYes (dItems (dCallN 3 m_nearest (dCons (dVar 5) (dCons (dVar 1) (dCons (dVar 3) dNil))))) (gN 7) dYes (dTupF (dStar (dVar 6) (dCons (dVar 7) dNil))) [7] k (rows.map tD) (nv q n x2 (.val rest) x4 (.val num) o6 .no) = .ret ((nx rows ns).map tD)
  | [], _, _, _, _ => rfl
  | row :: t, k, o6, hr, hk => by
    have ih := out_go hn hl q x2 x4 t (k + ns.length) o6 (fun r h => hr r (List.mem_cons_of_mem _ h)) (by simp at hk; omega)
    have e0 : (nv q n x2 (.val rest) x4 (.val num) o6 .no).set 6 (.val (tD row)) = nv q n x2 (.val rest) x4 (.val num) (.val (tD row)) .no := rfl
    have hi : dItems (dCallN 3 m_nearest (dCons (dVar 5) (dCons (dVar 1) (dCons (dVar 3) dNil)))) (nv q n x2 (.val rest) x4 (.val num) (.val (tD row)) .no) = .ret (ns.map .int) := by
      rw [r_items, call3 m_nearest (d := num) (d2 := n) (d3 := rest) rfl rfl rfl, hn]
      rfl
    have hg := in_go row (hr row List.mem_cons_self) q n x2 (.val rest) x4 (.val num) ns .no
    have e2 : ∀ (ds : List D) (env : Fs.Env) (d : D), lcGo2 (gN 6) dYes (dItems (dCallN 3 m_nearest (dCons (dVar 5) (dCons (dVar 1) (dCons (dVar 3) dNil))))) (gN 7) dYes (dTupF (dStar (dVar 6) (dCons (dVar 7) dNil))) [7] k (d :: ds) env =
      ((gN 6) d env).bind fun e1 => (dYes e1).bind fun b => if b = true then (dItems (dCallN 3 m_nearest (dCons (dVar 5) (dCons (dVar 1) (dCons (dVar 3) dNil)))) e1).bind fun its => if k ≤ 1000000 ∧ its.length < 1000000 then (lcGo (gN 7) dYes (dTupF (dStar (dVar 6) (dCons (dVar 7) dNil))) its (wipeE e1 [7])).bind fun ys => (lcGo2 (gN 6) dYes (dItems (dCallN 3 m_nearest (dCons (dVar 5) (dCons (dVar 1) (dCons (dVar 3) dNil))))) (gN 7) dYes (dTupF (dStar (dVar 6) (dCons (dVar 7) dNil))) [7] (k + ys.length) ds env).bind fun zs => .ret (ys ++ zs) else .bad
        else lcGo2 (gN 6) dYes (dItems (dCallN 3 m_nearest (dCons (dVar 5) (dCons (dVar 1) (dCons (dVar 3) dNil))))) (gN 7) dYes (dTupF (dStar (dVar 6) (dCons (dVar 7) dNil))) [7] k ds env := fun _ _ _ => rfl
    rw [List.map_cons, e2, r_gN, Cm.ret_bind, r_yes, Cm.ret_bind, if_pos rfl, e0, hi, Cm.ret_bind, if_pos ⟨by omega, by rw [List.length_map]; omega⟩]
    have ew : wipeE (nv q n x2 (.val rest) x4 (.val num) (.val (tD row)) .no) [7] = nv q n x2 (.val rest) x4 (.val num) (.val (tD row)) .no := rfl
    rw [ew, hg, Cm.ret_bind, List.length_map, List.length_map, ih, Cm.ret_bind]
    unfold nx
    rw [List.flatMap_cons, List.map_append]
theorem ev_lc {num rest n : D} {ns : List Int} (hn : m_nearest [num, n, rest] = .ret (.list (ns.map .int))) (hl : ns.length ≤ 2) (q : D) (x2 o6 o7 : Slot) {rows : List (List Int)} (hr : ∀ r ∈ rows, r.length ≤ 10) (hk : rows.length ≤ 1000) :
    dOnlyL LC (nv q n x2 (.val rest) (.val (.list (rows.map tD))) (.val num) o6 o7) = .ret (.list ((nx rows ns).map tD)) := by
  have h := out_go hn hl q x2 (.val (.list (rows.map tD))) rows 0 .no hr (by omega)
  rw [r_onlyL]
  have e : LC (nv q n x2 (.val rest) (.val (.list (rows.map tD))) (.val num) o6 o7) = (lcGo2 (gN 6) dYes (dItems (dCallN 3 m_nearest (dCons (dVar 5) (dCons (dVar 1) (dCons (dVar 3) dNil))))) (gN 7) dYes (dTupF (dStar (dVar 6) (dCons (dVar 7) dNil))) [7] 0 (rows.map tD) (nv q n x2 (.val rest) (.val (.list (rows.map tD))) (.val num) .no .no)).bind fun ys => .ret (.list ys) := rfl
  rw [e, h]
  rfl
end Fw

set_option linter.all false
set_option autoImplicit false
set_option maxRecDepth 100000
set_option exponentiation.threshold 2000
set_option maxHeartbeats 2000000
namespace Fw
open PySem Fs Fq Qt
theorem nx4 (as bs cs ds : List Int) : nx (nx (nx (nx [[]] as) bs) cs) ds = (rows4 as bs cs ds).map fun w => [w.a, w.b, w.c, w.d] := by
  simp [nx, rows4, List.flatMap_assoc, List.flatMap_map, List.map_flatMap, Function.comp_def]
theorem near0_len (num n : Int) : (near0 num n).length ≤ 2 := by unfold near0; split <;> (try split) <;> simp
theorem near1_len (num n : Int) : (near1 num n).length ≤ 2 := by unfold near1; split <;> simp
theorem nx_row {rows : List (List Int)} {ns : List Int} {k : Nat} (h : ∀ r ∈ rows, r.length ≤ k) : ∀ r ∈ nx rows ns, r.length ≤ k + 1 := by
  intro r hr
  unfold nx at hr
  rw [List.mem_flatMap] at hr
  obtain ⟨row, h1, h2⟩ := hr
  obtain ⟨a, _, rfl⟩ := List.mem_map.mp h2
  have := h row h1
  simp
  omega
theorem mul_le2 {a b k : Nat} (ha : a ≤ k) (hb : b ≤ 2) : a * b ≤ k * 2 := Nat.mul_le_mul ha hb
def STEP : DS := (dSeq (dSet 4 (dOnlyL (dLstF (dCons (dTupF dNil) dNil)))) (dSeq (dFor (dItems (dVar 0)) (gN 5) (dSet 4 (dOnlyL LC))) (dExtV 2 (dVar 4))))
theorem for4 {rest n : D} {q : Qt} {f : Int → List Int} (hf : ∀ i ∈ [q.a, q.b, q.c, q.d], m_nearest [.int i, n, rest] = .ret (.list ((f i).map .int))) (hl : ∀ i, (f i).length ≤ 2) (x2 x5 x6 x7 : Slot) :
    ∃ y5 y6 y7, dFor (dItems (dVar 0)) (gN 5) (dSet 4 (dOnlyL LC)) (nv q.D n x2 (.val rest) (.val (.list ([[]].map tD))) x5 x6 x7) = .ret (.nx (nv q.D n x2 (.val rest) (.val (.list ((nx (nx (nx (nx [[]] (f q.a)) (f q.b)) (f q.c)) (f q.d)).map tD))) y5 y6 y7)) := by
  have step : ∀ (i : Int) (rows : List (List Int)) (o5 o6 o7 : Slot), m_nearest [.int i, n, rest] = .ret (.list ((f i).map .int)) → (∀ r ∈ rows, r.length ≤ 10) → rows.length ≤ 1000 → dSet 4 (dOnlyL LC) (nv q.D n x2 (.val rest) (.val (.list (rows.map tD))) (.val (.int i)) o6 o7) = .ret (.nx (nv q.D n x2 (.val rest) (.val (.list ((nx rows (f i)).map tD))) (.val (.int i)) o6 o7)) := fun i rows o5 o6 o7 h h1 h2 =>
    set_nx (ev_lc h (hl i) q.D x2 o6 o7 h1 h2)
  have r0 : ∀ r ∈ ([[]] : List (List Int)), r.length ≤ 0 := fun r h => by simp at h; simp [h]
  have r1 := nx_row (ns := f q.a) r0
  have r2 := nx_row (ns := f q.b) r1
  have r3 := nx_row (ns := f q.c) r2
  have l1 : (nx [[]] (f q.a)).length ≤ 2 := by rw [nx_len]; have := hl q.a; simp; omega
  have l2 : (nx (nx [[]] (f q.a)) (f q.b)).length ≤ 4 := by rw [nx_len]; exact mul_le2 l1 (hl q.b)
  have l3 : (nx (nx (nx [[]] (f q.a)) (f q.b)) (f q.c)).length ≤ 8 := by rw [nx_len]; exact mul_le2 l2 (hl q.c)
  have hi : dItems (dVar 0) (nv q.D n x2 (.val rest) (.val (.list ([[]].map tD))) x5 x6 x7) = .ret [.int q.a, .int q.b, .int q.c, .int q.d] := rfl
  refine ⟨.val (.int q.d), x6, x7, ?_⟩
  rw [r_for, hi, Cm.ret_bind]
  rw [r_for1, r_gN, Cm.ret_bind]
  have e1 : (nv q.D n x2 (.val rest) (.val (.list ([[]].map tD))) x5 x6 x7).set 5 (.val (.int q.a)) = nv q.D n x2 (.val rest) (.val (.list ([[]].map tD))) (.val (.int q.a)) x6 x7 := rfl
  rw [e1, step q.a [[]] x5 x6 x7 (hf _ (by simp)) (fun r h => by have := r0 r h; omega) (by simp), Cm.ret_bind]
  simp only []
  rw [r_for1, r_gN, Cm.ret_bind]
  have e2 : ∀ z : D, (nv q.D n x2 (.val rest) (.val z) (.val (.int q.a)) x6 x7).set 5 (.val (.int q.b)) = nv q.D n x2 (.val rest) (.val z) (.val (.int q.b)) x6 x7 := fun _ => rfl
  rw [e2, step q.b _ x5 x6 x7 (hf _ (by simp)) (fun r h => by have := r1 r h; omega) (by omega), Cm.ret_bind]
  simp only []
  rw [r_for1, r_gN, Cm.ret_bind]
  have e3 : ∀ z : D, (nv q.D n x2 (.val rest) (.val z) (.val (.int q.b)) x6 x7).set 5 (.val (.int q.c)) = nv q.D n x2 (.val rest) (.val z) (.val (.int q.c)) x6 x7 := fun _ => rfl
  rw [e3, step q.c _ x5 x6 x7 (hf _ (by simp)) (fun r h => by have := r2 r h; omega) (by omega), Cm.ret_bind]
  simp only []
  rw [r_for1, r_gN, Cm.ret_bind]
  have e4 : ∀ z : D, (nv q.D n x2 (.val rest) (.val z) (.val (.int q.c)) x6 x7).set 5 (.val (.int q.d)) = nv q.D n x2 (.val rest) (.val z) (.val (.int q.d)) x6 x7 := fun _ => rfl
  rw [e4, step q.d _ x5 x6 x7 (hf _ (by simp)) (fun r h => by have := r3 r h; omega) (by omega), Cm.ret_bind]
  rfl
theorem step_e {rest n : D} {q : Qt} {f : Int → List Int} (hf : ∀ i ∈ [q.a, q.b, q.c, q.d], m_nearest [.int i, n, rest] = .ret (.list ((f i).map .int))) (hl : ∀ i, (f i).length ≤ 2) {acc : List Qt} (hacc : acc.length ≤ 100) (x4 x5 x6 x7 : Slot) :
    ∃ y4 y5 y6 y7, STEP (nv q.D n (.own (.list (acc.map D))) (.val rest) x4 x5 x6 x7) = .ret (.nx (nv q.D n (.own (.list ((acc ++ rows4 (f q.a) (f q.b) (f q.c) (f q.d)).map D))) (.val rest) y4 y5 y6 y7)) := by
  obtain ⟨y5, y6, y7, h⟩ := for4 (q := q) hf hl (.own (.list (acc.map D))) x5 x6 x7
  refine ⟨.val (.list ((rows4 (f q.a) (f q.b) (f q.c) (f q.d)).map D)), y5, y6, y7, ?_⟩
  unfold STEP
  have s1 : dSet 4 (dOnlyL (dLstF (dCons (dTupF dNil) dNil))) (nv q.D n (.own (.list (acc.map D))) (.val rest) x4 x5 x6 x7) = .ret (.nx (nv q.D n (.own (.list (acc.map D))) (.val rest) (.val (.list ([[]].map tD))) x5 x6 x7)) := rfl
  rw [r_seq, s1, Cm.ret_bind]
  simp only []
  rw [r_seq, h, Cm.ret_bind]
  simp only []
  rw [nx4]
  have em : ((rows4 (f q.a) (f q.b) (f q.c) (f q.d)).map fun w => [w.a, w.b, w.c, w.d]).map tD = (rows4 (f q.a) (f q.b) (f q.c) (f q.d)).map D := by
    rw [List.map_map]; rfl
  rw [em]
  have hlen : (rows4 (f q.a) (f q.b) (f q.c) (f q.d)).length ≤ 16 := by
    have e := congrArg List.length (nx4 (f q.a) (f q.b) (f q.c) (f q.d))
    rw [List.length_map, nx_len, nx_len, nx_len, nx_len] at e
    have l1 : [([] : List Int)].length * (f q.a).length ≤ 2 := by have := hl q.a; simp; omega
    have l2 := mul_le2 l1 (hl q.b)
    have l3 := mul_le2 l2 (hl q.c)
    have l4 := mul_le2 l3 (hl q.d)
    omega
  unfold dExtV
  show (Cm.bind (Cm.ret (PyData.list ((rows4 (f q.a) (f q.b) (f q.c) (f q.d)).map D))) fun d => match d with
    | .list es => if (acc.map D).length + es.length < 1000000 then _ else _
    | _ => _) = _
  rw [Cm.ret_bind]
  simp only []
  rw [if_pos (by rw [List.length_map, List.length_map]; omega), List.map_append]
  rfl
theorem ev_near_quads {q : Qt} {n : Int} (hn : 0 < n) (hb : Bq 3000 q) [Bd 3000 n] : m_near_quads [q.D, .int n] = .ret (.list ((nears q n).map D)) := by
  haveI := hb.a
  haveI := hb.b
  haveI := hb.c
  haveI := hb.d
  have f0 : ∀ i ∈ [q.a, q.b, q.c, q.d], m_nearest [.int i, .int n, .int 0] = .ret (.list ((near0 i n).map .int)) := fun i hi => by
    simp only [List.mem_cons, List.not_mem_nil, or_false] at hi
    rcases hi with rfl | rfl | rfl | rfl <;> exact ev_near0 _ n hn
  have f1 : ∀ i ∈ [q.a, q.b, q.c, q.d], m_nearest [.int i, .int n, .int 1] = .ret (.list ((near1 i n).map .int)) := fun i hi => by
    simp only [List.mem_cons, List.not_mem_nil, or_false] at hi
    rcases hi with rfl | rfl | rfl | rfl <;> exact ev_near1 _ n hn
  have e : m_near_quads [q.D, .int n] = (S_near_quads (nv q.D (.int n) .no .no .no .no .no .no)).bind outD := rfl
  have eS : S_near_quads = dSeq (dSetF 2 (dLstF dNil)) (dSeq (dFor (dItems (dTupF (dCons (dCst (.int 0)) (dCons (dCst (.int 1)) dNil)))) (gN 3) STEP) (dFrz 2 (dRet (dVar 2)))) := rfl
  rw [e, eS]
  have s1 : dSetF 2 (dLstF dNil) (nv q.D (.int n) .no .no .no .no .no .no) = .ret (.nx (nv q.D (.int n) (.own (.list (([] : List Qt).map D))) .no .no .no .no .no)) := rfl
  rw [r_seq, s1, Cm.ret_bind]
  simp only []
  obtain ⟨a4, a5, a6, a7, h0⟩ := step_e (q := q) (n := .int n) (rest := .int 0) (f := fun i => near0 i n) f0 (fun i => near0_len i n) (acc := []) (by simp) .no .no .no .no
  have hl : ([] ++ rows4 (near0 q.a n) (near0 q.b n) (near0 q.c n) (near0 q.d n)).length ≤ 100 := by
    have e := congrArg List.length (nx4 (near0 q.a n) (near0 q.b n) (near0 q.c n) (near0 q.d n))
    rw [List.length_map, nx_len, nx_len, nx_len, nx_len] at e
    have l1 : [([] : List Int)].length * (near0 q.a n).length ≤ 2 := by have := near0_len q.a n; simp; omega
    have l4 := mul_le2 (mul_le2 (mul_le2 l1 (near0_len q.b n)) (near0_len q.c n)) (near0_len q.d n)
    rw [List.nil_append]
    omega
  obtain ⟨b4, b5, b6, b7, h1⟩ := step_e (q := q) (n := .int n) (rest := .int 1) (f := fun i => near1 i n) f1 (fun i => near1_len i n) hl a4 a5 a6 a7
  have hfor : dFor (dItems (dTupF (dCons (dCst (.int 0)) (dCons (dCst (.int 1)) dNil)))) (gN 3) STEP (nv q.D (.int n) (.own (.list (([] : List Qt).map D))) .no .no .no .no .no) = .ret (.nx (nv q.D (.int n) (.own (.list ((nears q n).map D))) (.val (.int 1)) b4 b5 b6 b7)) := by
    rw [r_for]
    show (Cm.bind (Cm.ret [PyData.int 0, PyData.int 1]) _) = _
    rw [Cm.ret_bind, r_for1, r_gN, Cm.ret_bind]
    have e3 : (nv q.D (.int n) (.own (.list (([] : List Qt).map D))) .no .no .no .no .no).set 3 (.val (.int 0)) = nv q.D (.int n) (.own (.list (([] : List Qt).map D))) (.val (.int 0)) .no .no .no .no := rfl
    rw [e3, h0, Cm.ret_bind]
    simp only []
    rw [r_for1, r_gN, Cm.ret_bind]
    have e4 : ∀ z : List D, (nv q.D (.int n) (.own (.list z)) (.val (.int 0)) a4 a5 a6 a7).set 3 (.val (.int 1)) = nv q.D (.int n) (.own (.list z)) (.val (.int 1)) a4 a5 a6 a7 := fun _ => rfl
    rw [e4, h1]
    rfl
  rw [r_seq, hfor]
  rfl
end Fw

set_option linter.all false
set_option autoImplicit false
set_option maxRecDepth 100000
set_option exponentiation.threshold 2000
set_option maxHeartbeats 2000000
namespace Fw
open PySem Fs Fq Qt
/-! ## the head of a sorted list -/
theorem leD_trans (a b c : D) (h1 : leD a b = true) (h2 : leD b c = true) : leD a c = true := by
  unfold leD at *
  rw [PySem.W.dataLe_eq] at *
  simp only [cond_false, Bool.not_eq_true'] at *
  cases h : PySem.W.dataLt c a with
  | false => rfl
  | true =>
    rcases PyProof.Rows.lex_negTrans _ _ _ h with g | g
    · rw [show PySem.W.dataLt c b = true from g] at h2; cases h2
    · rw [show PySem.W.dataLt b a = true from g] at h1; cases h1
theorem leD_total (a b : D) : (leD a b || leD b a) = true := by
  unfold leD
  rw [PySem.W.dataLe_eq]
  simp only [cond_false]
  cases h : PySem.W.dataLt b a with
  | false => rfl
  | true =>
    cases g : PySem.W.dataLt a b with
    | false => rfl
    | true =>
      have := PyProof.Rows.lex_trans _ _ _ h g
      rw [PyProof.Rows.lex_irrefl] at this
      cases this
theorem sort_head {l t : List D} {x : D} (h : l.mergeSort leD = x :: t) : x ∈ l ∧ ∀ y ∈ l, leD x y = true := by
  have hp := List.pairwise_mergeSort (le := leD) leD_trans leD_total l
  rw [h] at hp
  have pm : (x :: t).Perm l := by rw [← h]; exact List.mergeSort_perm _ _
  have hs := (List.pairwise_cons.mp hp).1
  refine ⟨pm.mem_iff.mp List.mem_cons_self, fun y hy => ?_⟩
  rcases List.mem_cons.mp (pm.mem_iff.mpr hy) with rfl | hy
  · have := leD_total y y
    simpa using this
  · exact hs y hy
/-- pairs of a size and a quad -/
def pD (s : Int) (w : Qt) : D := .tuple [.int s, w.D]
theorem le_pD {s t : Int} {w v : Qt} (h : leD (pD s w) (pD t v) = true) : s ≤ t := by
  unfold leD at h
  rw [PySem.W.dataLe_eq] at h
  simp only [cond_false, Bool.not_eq_true'] at h
  unfold pD at h
  rw [PySem.W.dataLt_pair (by simp [PySem.W.alike]) (by simp [PySem.W.alike, PySem.W.alikeAll, Qt.D])] at h
  simp only [PyData.eqv, beq_iff_eq, PySem.W.dataLt_int] at h
  by_cases e : t = s
  · omega
  · rw [if_neg e] at h
    have := of_decide_eq_false h
    omega
end Fw

set_option linter.all false
set_option autoImplicit false
set_option maxRecDepth 100000
set_option exponentiation.threshold 2000
set_option maxHeartbeats 2000000
namespace Fw
open PySem Fs Fq Qt
/-! ## left_by, right_by evaluated -/
theorem four_bd {k l : Nat} {a b c d e f g h : Int} [Bd k a] [Bd k b] [Bd k c] [Bd k d] [Bd l e] [Bd l f] [Bd l g] [Bd l h] {s : Int} (hs : s.natAbs ≤ (a * e).natAbs + (b * f).natAbs + (c * g).natAbs + (d * h).natAbs) : Bd (k + l + 1) (s / 2) := ⟨by
  have h1 := (inferInstance : Bd (k + l) (a * e)).lt
  have h2 := (inferInstance : Bd (k + l) (b * f)).lt
  have h3 := (inferInstance : Bd (k + l) (c * g)).lt
  have h4 := (inferInstance : Bd (k + l) (d * h)).lt
  rw [Nat.pow_succ]
  generalize 2 ^ (k + l) = p at *
  omega⟩
theorem Bq.mulT {k l : Nat} {x y : Qt} (h : Bq k x) (g : Bq l y) : Bq (k + l + 1) (Qt.mul x y) := by
  haveI := h.a
  haveI := h.b
  haveI := h.c
  haveI := h.d
  haveI := g.a
  haveI := g.b
  haveI := g.c
  haveI := g.d
  refine ⟨four_bd (a := x.a) (b := x.b) (c := x.c) (d := x.d) (e := y.a) (f := y.b) (g := y.c) (h := y.d) ?_, four_bd (a := x.a) (b := x.b) (c := x.c) (d := x.d) (e := y.b) (f := y.a) (g := y.d) (h := y.c) ?_,
    four_bd (a := x.a) (b := x.b) (c := x.c) (d := x.d) (e := y.c) (f := y.d) (g := y.a) (h := y.b) ?_, four_bd (a := x.a) (b := x.b) (c := x.c) (d := x.d) (e := y.d) (f := y.c) (g := y.b) (h := y.a) ?_⟩ <;> omega
theorem Bq.conj {k : Nat} {x : Qt} (h : Bq k x) : Bq k (Qt.conj x) := by
  haveI := h.b
  haveI := h.c
  haveI := h.d
  exact ⟨h.a, inferInstanceAs (Bd k (-x.b)), inferInstanceAs (Bd k (-x.c)), inferInstanceAs (Bd k (-x.d))⟩
theorem Bq.sub {k : Nat} {x y : Qt} (h : Bq k x) (g : Bq k y) : Bq (k + 1) (Qt.sub x y) := by
  have s : ∀ {i j : Int}, Bd k i → Bd k j → Bd (k + 1) (i - j) := fun {i j} a b => ⟨by
    have := a.lt
    have := b.lt
    rw [Nat.pow_succ]
    generalize 2 ^ k = p at *
    omega⟩
  exact ⟨s h.a g.a, s h.b g.b, s h.c g.c, s h.d g.d⟩
theorem ev_prodK {x y : Qt} (h : Bq 3000 x) (g : Bq 3000 y) : m_product_by [x.D, y.D] = .ret (mul x y).D := by
  haveI := h.a
  haveI := h.b
  haveI := h.c
  haveI := h.d
  haveI := g.a
  haveI := g.b
  haveI := g.c
  haveI := g.d
  show m_product_by [q4 x.a x.b x.c x.d, q4 y.a y.b y.c y.d] = _
  simp [m_product_by, S_product_by, vMul_a, mul, Qt.D]
theorem ev_back (x : Qt) : m_back_by [x.D] = .ret (conj x).D := by
  show m_back_by [q4 x.a x.b x.c x.d] = _
  simp [m_back_by, S_back_by, conj, Qt.D]
theorem ev_sizeK {x : Qt} (h : Bq 9000 x) : m_size_by [x.D] = .ret (.int (nsq x / 4)) := by
  haveI := h.a
  haveI := h.b
  haveI := h.c
  haveI := h.d
  show m_size_by [q4 x.a x.b x.c x.d] = _
  simp [m_size_by, S_size_by, vMul_a, D_PARTS]
  unfold nsq
  congr 1
  omega
theorem ev_minus {x y : Qt} (g : Bq 9000 y) : m_minus_by [x.D, y.D] = .ret (sub x y).D := by
  haveI := g.a
  haveI := g.b
  haveI := g.c
  haveI := g.d
  have hp : m_plus_by [q4 x.a x.b x.c x.d, q4 y.a y.b y.c y.d, .int (-1)] = .ret (q4 (x.a - y.a) (x.b - y.b) (x.c - y.c) (x.d - y.d)) := by
    simp [m_plus_by, S_plus_by, vMul_a, zip2, Int.sub_eq_add_neg]
  show m_minus_by [q4 x.a x.b x.c x.d, q4 y.a y.b y.c y.d] = _
  simp [m_minus_by, S_minus_by, hp, sub, Qt.D]
theorem pD_shaped : ∀ ps : List (Int × Qt), SeqAt.shaped (.list (ps.map fun p => pD p.1 p.2)) = true := by
  have cl : ∀ ps : List (Int × Qt), PyData.canLayAll0 (ps.map fun p => pD p.1 p.2) = true := by
    intro ps
    induction ps with
    | nil => rfl
    | cons a t ih => simp only [List.map_cons, PyData.canLayAll0, ih, Bool.and_true]; rfl
  have dp : ∀ ps : List (Int × Qt), PyData.depthAll (ps.map fun p => pD p.1 p.2) ≤ 4 := by
    intro ps
    induction ps with
    | nil => simp [PyData.depthAll]
    | cons a t ih =>
      simp only [List.map_cons, PyData.depthAll]
      have e : PyData.depth (pD a.1 a.2) = 2 := rfl
      omega
  intro ps
  have h := dp ps
  refine Bool.and_eq_true_iff.mpr ⟨?_, decide_eq_true ?_⟩
  · simp only [PyData.canLay0, cl]
  · simp only [PyData.depth]; omega
theorem pD_alike (ps : List (Int × Qt)) : alikeB (ps.map fun p => pD p.1 p.2) = true := by
  unfold alikeB
  rw [Bool.and_eq_true, List.all_eq_true, List.all_eq_true]
  refine ⟨fun d hd => ?_, fun d hd => ?_⟩
  · obtain ⟨x, _, rfl⟩ := List.mem_map.mp hd
    rw [List.all_eq_true]
    intro e he
    obtain ⟨y, _, rfl⟩ := List.mem_map.mp he
    simp [pD, Qt.D, PySem.W.alike, PySem.W.alikeAll]
  · obtain ⟨x, _, rfl⟩ := List.mem_map.mp hd
    rfl
theorem pD_sort (ps : List (Int × Qt)) : sortB (ps.map fun p => pD p.1 p.2) = true := by
  unfold sortB
  rw [Bool.or_eq_true]
  left
  rw [List.all_eq_true]
  intro d hd
  obtain ⟨x, _, rfl⟩ := List.mem_map.mp hd
  rfl
/-- the least of the pairs -/
theorem sorted_pairs {ps : List (Int × Qt)} (h0 : ps ≠ []) : ∃ s w t, cSortL [.list (ps.map fun p => pD p.1 p.2)] = .ret (.list (pD s w :: t)) ∧ (s, w) ∈ ps ∧ ∀ p ∈ ps, s ≤ p.1 := by
  have e0 : ∀ ds : List D, cSortL [.list ds] = if SeqAt.shaped (.list ds) = true ∧ alikeB ds = true ∧ sortB ds = true then .ret (.list (ds.mergeSort leD)) else .bad := fun _ => rfl
  cases hm : (ps.map fun p => pD p.1 p.2).mergeSort leD with
  | nil =>
    have := congrArg List.length hm
    rw [List.length_mergeSort, List.length_map] at this
    exact absurd (List.eq_nil_of_length_eq_zero this) h0
  | cons x t =>
    obtain ⟨h1, h2⟩ := sort_head hm
    obtain ⟨⟨s, w⟩, hp, rfl⟩ := List.mem_map.mp h1
    refine ⟨s, w, t, ?_, hp, fun p hq => le_pD (w := w) (v := p.2) (h2 _ (List.mem_map.mpr ⟨p, hq, rfl⟩))⟩
    rw [e0, if_pos ⟨pD_shaped ps, pD_alike ps, pD_sort ps⟩, hm]
end Fw

set_option linter.all false
set_option autoImplicit false
set_option maxRecDepth 100000
set_option exponentiation.threshold 2000
set_option maxHeartbeats 2000000
namespace Fw
open PySem Fs Fq Qt
theorem near_bd {num n a : Int} {k : Nat} (b : Bd k num) (h : a ∈ near0 num n ∨ a ∈ near1 num n) : Bd (k + 3) a := ⟨by
  have hb := b.lt
  have h4 : (num / (2 * n)).natAbs ≤ num.natAbs := Int.natAbs_ediv_le_natAbs _ _
  have hp : 2 ^ (k + 3) = 2 ^ k * 8 := by rw [Nat.pow_add]
  have h1 : 1 ≤ 2 ^ k := Nat.one_le_two_pow
  rw [hp]
  unfold near0 near1 at h
  generalize num / (2 * n) = q at *
  generalize num % (2 * n) = t at *
  generalize 2 ^ k = p at *
  rcases h with h | h
  · split at h
    · simp only [List.mem_singleton] at h; omega
    · split at h
      · simp only [List.mem_cons, List.not_mem_nil, or_false] at h
        rcases h with h | h <;> omega
      · simp only [List.mem_singleton] at h; omega
  · split at h
    · simp only [List.mem_cons, List.not_mem_nil, or_false] at h
      rcases h with h | h <;> omega
    · simp only [List.mem_singleton] at h; omega⟩
theorem nears_bd {q : Qt} {n : Int} {k : Nat} (hb : Bq k q) {w : Qt} (h : w ∈ nears q n) : Bq (k + 3) w := by
  rcases List.mem_append.mp h with h | h
  · obtain ⟨h1, h2, h3, h4⟩ := mem_rows4.mp h
    exact ⟨near_bd hb.a (.inl h1), near_bd hb.b (.inl h2), near_bd hb.c (.inl h3), near_bd hb.d (.inl h4)⟩
  · obtain ⟨h1, h2, h3, h4⟩ := mem_rows4.mp h
    exact ⟨near_bd hb.a (.inr h1), near_bd hb.b (.inr h2), near_bd hb.c (.inr h3), near_bd hb.d (.inr h4)⟩
theorem nears_len (q : Qt) (n : Int) : (nears q n).length < 1000000 := by
  have one : ∀ (as bs cs ds : List Int), as.length ≤ 2 → bs.length ≤ 2 → cs.length ≤ 2 → ds.length ≤ 2 → (rows4 as bs cs ds).length ≤ 16 := fun as bs cs ds h1 h2 h3 h4 => by
    have e := congrArg List.length (nx4 as bs cs ds)
    rw [List.length_map, nx_len, nx_len, nx_len, nx_len] at e
    have l1 : [([] : List Int)].length * as.length ≤ 2 := by simp; omega
    have l4 := mul_le2 (mul_le2 (mul_le2 l1 h2) h3) h4
    omega
  have a := one _ _ _ _ (near0_len q.a n) (near0_len q.b n) (near0_len q.c n) (near0_len q.d n)
  have b := one _ _ _ _ (near1_len q.a n) (near1_len q.b n) (near1_len q.c n) (near1_len q.d n)
  unfold nears
  rw [List.length_append]
  omega
theorem lf_go {x o : Qt} (hbx : Bq 1000 x) (hbo : Bq 700 o) (x2 x3 : Slot) : ∀ (ws : List Qt) (o4 : Slot), (∀ w ∈ ws, Bq 1704 w) →
    lcGo (gN 4) dYes (dTupF (dCons (dCallN 1 m_size_by (dCons (dCallN 2 m_minus_by (dCons (dVar 0) (dCons (dCallN 2 m_product_by (dCons (dVar 1) (dCons (dVar 4) dNil))) dNil))) dNil)) (dCons (dVar 4) dNil))) (ws.map D) [.val x.D, .val o.D, x2, x3, o4] = .ret ((ws.map fun w => (nsq (sub x (mul o w)) / 4, w)).map fun p => pD p.1 p.2)
  | [], _, _ => rfl
  | w :: t, o4, h => by
    have hw := h w List.mem_cons_self
    have ih := lf_go hbx hbo x2 x3 t o4 fun v hv => h v (List.mem_cons_of_mem _ hv)
    have e0 : ([.val x.D, .val o.D, x2, x3, o4] : Fs.Env).set 4 (.val w.D) = [.val x.D, .val o.D, x2, x3, .val w.D] := rfl
    have p1 := (call2 m_product_by (env := [.val x.D, .val o.D, x2, x3, .val w.D]) (f := dVar 1) (f2 := dVar 4) (d := o.D) (d2 := w.D) rfl rfl).trans (ev_prodK (hbo.mono (by decide)) (hw.mono (by decide)))
    have bow := hbo.mulT hw
    have p2 := (call2 m_minus_by (env := [.val x.D, .val o.D, x2, x3, .val w.D]) (f := dVar 0) (d := x.D) (d2 := (mul o w).D) rfl p1).trans (ev_minus (bow.mono (by decide)))
    have bs := (hbx.mono (show 1000 ≤ 700 + 1704 + 1 by decide)).sub bow
    have p3 := (call1 m_size_by (env := [.val x.D, .val o.D, x2, x3, .val w.D]) p2).trans (ev_sizeK (bs.mono (by decide)))
    have ef : dTupF (dCons (dCallN 1 m_size_by (dCons (dCallN 2 m_minus_by (dCons (dVar 0) (dCons (dCallN 2 m_product_by (dCons (dVar 1) (dCons (dVar 4) dNil))) dNil))) dNil)) (dCons (dVar 4) dNil)) [.val x.D, .val o.D, x2, x3, .val w.D] = .ret (pD (nsq (sub x (mul o w)) / 4) w) := by
      rw [r_tupF, r_cons, p3, Cm.ret_bind]
      rfl
    rw [List.map_cons, r_lc1, r_gN, Cm.ret_bind, r_yes, Cm.ret_bind, if_pos rfl, e0, ef, Cm.ret_bind, if_pos (show flatD (pD (nsq (sub x (mul o w)) / 4) w) = true from rfl), ih]
    rfl
theorem ev_left_by {x o : Qt} (hx : x.Ok) (ho : o.Ok) (hbx : Bq 1000 x) (hbo : Bq 700 o) (h0 : nsq o ≠ 0) : ∃ w : Qt, m_left_by [x.D, o.D] = .ret (.tuple [w.D, (sub x (mul o w)).D]) ∧ w.Ok ∧ Bq 1704 w ∧ 2 * nsq (sub x (mul o w)) ≤ nsq o ∧ (∀ v : Qt, v.Ok → x = mul o v → w = v) ∧ ∀ k l : Nat, Bq k x → Bq l o → Bq (l + k + 1 + 3) w := by
  obtain ⟨n, en, _⟩ := conj_self ho
  have npos : 0 < n := by have := nsq_nonneg o; omega
  have bq : Bq 1701 (mul (conj o) x) := (hbo.conj.mulT hbx).mono (by decide)
  have en4 : nsq o / 4 = n := by omega
  haveI bn : Bd 3000 n := ⟨by
    have s : ∀ i : Int, Bd 700 i → i * i < 2 ^ 1400 := fun i b => by
      have h := (inferInstance : Bd (700 + 700) (i * i)).lt
      have e : ((2 ^ 1400 : Nat) : Int) = 2 ^ 1400 := by norm_cast
      have h' : (i * i).natAbs < 2 ^ 1400 := h
      generalize (2 : Nat) ^ 1400 = p at *
      omega
    have h1 := s _ hbo.a
    have h2 := s _ hbo.b
    have h3 := s _ hbo.c
    have h4 := s _ hbo.d
    have hN : nsq o = o.a * o.a + o.b * o.b + o.c * o.c + o.d * o.d := rfl
    have e : ((2 ^ 1400 : Nat) : Int) = 2 ^ 1400 := by norm_cast
    have lt : (2 : Nat) ^ 1400 ≤ 2 ^ 3000 := Nat.pow_le_pow_right (by decide) (by decide)
    rw [← e] at h1 h2 h3 h4
    generalize (2 : Nat) ^ 1400 = p at *
    generalize (2 : Nat) ^ 3000 = r at *
    omega⟩
  have enq := ev_near_quads npos (bq.mono (show 1701 ≤ 3000 by decide)) (n := n)
  have hbw : ∀ w ∈ nears (mul (conj o) x) n, Bq 1704 w := fun w hw => nears_bd bq hw
  obtain ⟨v0, hv0, _⟩ := nears_near (mul (conj o) x) npos
  obtain ⟨s, w, t, es, hm, hmin⟩ := sorted_pairs (ps := (nears (mul (conj o) x) n).map fun w => (nsq (sub x (mul o w)) / 4, w)) (by
    intro h
    rw [List.map_eq_nil_iff] at h
    rw [h] at hv0
    cases hv0)
  obtain ⟨w', hw', eq_⟩ := List.mem_map.mp hm
  have e1 : w' = w := (Prod.mk.inj eq_).2
  have e2 : nsq (sub x (mul o w')) / 4 = s := (Prod.mk.inj eq_).1
  subst e1
  have four : ∀ v ∈ nears (mul (conj o) x) n, ∃ k, nsq (sub x (mul o v)) = 4 * k := fun v hv => by
    obtain ⟨k, e, _⟩ := conj_self (ok_sub hx (ok_mul ho (nears_ok npos hv)))
    exact ⟨k, e⟩
  obtain ⟨g1, g2, g3⟩ := left_choice hx ho en npos hw' fun v hv => by
    have h1 := hmin _ (List.mem_map.mpr ⟨v, hv, rfl⟩)
    obtain ⟨k1, c1⟩ := four w' hw'
    obtain ⟨k2, c2⟩ := four v hv
    simp only [] at h1
    omega
  refine ⟨w', ?_, g1, hbw w' hw', g2, g3, fun k l bx bo => nears_bd (bo.conj.mulT bx) hw'⟩
  have e : m_left_by [x.D, o.D] = (S_left_by [.val x.D, .val o.D, .no, .no, .no]).bind outD := rfl
  rw [e]
  unfold S_left_by
  have c1 := (call1 m_back_by (env := [.val x.D, .val o.D, .no, .no, .no]) (f := dVar 1) (d := o.D) rfl).trans (ev_back o)
  have c2 := (call2 m_product_by (env := [.val x.D, .val o.D, .no, .no, .no]) (f2 := dVar 0) (d := (conj o).D) (d2 := x.D) c1 rfl).trans (ev_prodK (hbo.conj.mono (by decide)) (hbx.mono (by decide)))
  have c3 := (call1 m_size_by (env := [.val x.D, .val o.D, .no, .no, .no]) (f := dVar 1) (d := o.D) rfl).trans (ev_sizeK (hbo.mono (by decide)))
  rw [en4] at c3
  have c4 := (call2 m_near_quads (env := [.val x.D, .val o.D, .no, .no, .no]) c2 c3).trans enq
  rw [r_seq, set_nx c4, Cm.ret_bind]
  simp only []
  have E2 : ([.val x.D, .val o.D, .no, .no, .no] : Fs.Env).set 2 (.val (.list ((nears (mul (conj o) x) n).map D))) = [.val x.D, .val o.D, .val (.list ((nears (mul (conj o) x) n).map D)), .no, .no] := rfl
  rw [E2]
  have hl := lc_run (vs := [4]) (fi := dItems (dVar 2)) (env := [.val x.D, .val o.D, .val (.list ((nears (mul (conj o) x) n).map D)), .no, .no]) rfl (by rw [List.length_map]; exact nears_len _ _) (lf_go hbx hbo _ .no (nears (mul (conj o) x) n) .no hbw)
  have hs : dCall cSortL (dCons (dOnlyL (dLc (dItems (dVar 2)) (gN 4) dYes (dTupF (dCons (dCallN 1 m_size_by (dCons (dCallN 2 m_minus_by (dCons (dVar 0) (dCons (dCallN 2 m_product_by (dCons (dVar 1) (dCons (dVar 4) dNil))) dNil))) dNil)) (dCons (dVar 4) dNil))) [4])) dNil) [.val x.D, .val o.D, .val (.list ((nears (mul (conj o) x) n).map D)), .no, .no] = .ret (.list (pD s w' :: t)) := by
    rw [r_call, r_cons, hl, Cm.ret_bind, r_nil, Cm.ret_bind, Cm.ret_bind, es]
  rw [r_seq, set_nx hs, Cm.ret_bind]
  simp only []
  generalize (PyData.list ((nears (mul (conj o) x) n).map D)) = L2
  have s4 : dSet 4 (dOp vIx (dOp vIx (dPeek 3) (dCst (.int 0))) (dCst (.int 1))) [.val x.D, .val o.D, .val L2, .val (.list (pD s w' :: t)), .no] = .ret (.nx [.val x.D, .val o.D, .val L2, .val (.list (pD s w' :: t)), .val w'.D]) := by
    have a1 : dOp vIx (dPeek 3) (dCst (.int 0)) [.val x.D, .val o.D, .val L2, .val (.list (pD s w' :: t)), .no] = .ret (pD s w') := (op2 (d1 := .list (pD s w' :: t)) (d2 := .int 0) rfl rfl).trans (by rw [r_ix_l, at0])
    exact set_nx ((op2 a1 (d2 := .int 1) rfl).trans (by unfold pD; rw [r_ix_t, at1]))
  have E3 : ([.val x.D, .val o.D, .val L2, .no, .no] : Fs.Env).set 3 (.val (.list (pD s w' :: t))) = [.val x.D, .val o.D, .val L2, .val (.list (pD s w' :: t)), .no] := rfl
  rw [E3, r_seq, s4, Cm.ret_bind]
  simp only []
  have hw4 := hbw w' hw'
  have p1 := (call2 m_product_by (env := [.val x.D, .val o.D, .val L2, .val (.list (pD s w' :: t)), .val w'.D]) (f := dVar 1) (f2 := dVar 4) (d := o.D) (d2 := w'.D) rfl rfl).trans (ev_prodK (hbo.mono (by decide)) (hw4.mono (by decide)))
  have p2 := (call2 m_minus_by (env := [.val x.D, .val o.D, .val L2, .val (.list (pD s w' :: t)), .val w'.D]) (f := dVar 0) (d := x.D) (d2 := (mul o w').D) rfl p1).trans (ev_minus ((hbo.mulT hw4).mono (by decide)))
  rw [r_ret, r_tupF, r_cons]
  show ((Cm.bind (Cm.bind (Cm.bind (Cm.ret w'.D) _) _) _).bind outD) = _
  rw [Cm.ret_bind, r_cons, p2]
  rfl
end Fw

set_option linter.all false
set_option autoImplicit false
set_option maxRecDepth 100000
set_option exponentiation.threshold 2000
set_option maxHeartbeats 2000000
namespace Fw
open PySem Fs Fq Qt
/-! ## left_common: the walk to the common left divisor -/
theorem sq_bd {a N : Int} {k : Nat} (h : a * a ≤ N) (hN : N < 2 ^ (2 * k)) : Bd k a := ⟨by
  refine Nat.lt_of_not_le fun g => ?_
  have h2 : 2 ^ k * 2 ^ k ≤ a.natAbs * a.natAbs := Nat.mul_le_mul g g
  have h3 : ((a.natAbs * a.natAbs : Nat) : Int) = a * a := Int.natAbs_mul_self
  have e : (2 : Nat) ^ k * 2 ^ k = 2 ^ (2 * k) := by rw [← Nat.pow_add]; congr 1; omega
  rw [e] at h2
  have e2 : ((2 ^ (2 * k) : Nat) : Int) = 2 ^ (2 * k) := by norm_cast
  rw [← e2] at hN
  generalize (2 : Nat) ^ (2 * k) = p at *
  omega⟩
theorem nsq_bq {x : Qt} {k : Nat} (h : nsq x < 2 ^ (2 * k)) : Bq k x := by
  have sq : ∀ t : Int, 0 ≤ t * t := fun t => by
    rcases Int.le_total 0 t with h | h
    · exact Int.mul_nonneg h h
    · exact Int.mul_nonneg_of_nonpos_of_nonpos h h
  have h1 := sq x.a
  have h2 := sq x.b
  have h3 := sq x.c
  have h4 := sq x.d
  have e : nsq x = x.a * x.a + x.b * x.b + x.c * x.c + x.d * x.d := rfl
  exact ⟨sq_bd (N := nsq x) (by omega) h, sq_bd (N := nsq x) (by omega) h, sq_bd (N := nsq x) (by omega) h, sq_bd (N := nsq x) (by omega) h⟩
/-- g divides both from the left and is made of both -/
structure Gcd (x o g : Qt) : Prop where
  ok : g.Ok
  d1 : ∃ s : Qt, s.Ok ∧ x = mul g s
  d2 : ∃ t : Qt, t.Ok ∧ o = mul g t
  c : ∃ a b : Qt, a.Ok ∧ b.Ok ∧ g = add (mul x a) (mul o b)
theorem mul_zero (x : Qt) : mul x Qt.zero = Qt.zero := by
  simp only [mul, Qt.zero, Int.mul_zero, Int.sub_zero, Int.add_zero, Int.zero_ediv]
theorem add_zero (x : Qt) : add x Qt.zero = x := by
  simp only [add, Qt.zero, Int.add_zero]
theorem gcd_zero {x : Qt} (hx : x.Ok) : Gcd x Qt.zero x :=
  ⟨hx, ⟨Qt.one, ok_one, (Qt.mul_one x).symm⟩, ⟨Qt.zero, ok_zero, (mul_zero x).symm⟩, ⟨Qt.one, Qt.zero, ok_one, ok_zero, by rw [Qt.mul_one, mul_zero, add_zero]⟩⟩
theorem add_sub_cancel' {x y : Qt} : add y (Qt.sub x y) = x := by
  unfold add Qt.sub
  exact Qt.ext (by simp only []; omega) (by simp only []; omega) (by simp only []; omega) (by simp only []; omega)
theorem gcd_step {x o w g : Qt} (hx : x.Ok) (ho : o.Ok) (hw : w.Ok) (G : Gcd o (Qt.sub x (mul o w)) g) : Gcd x o g := by
  obtain ⟨s, hs, es⟩ := G.d1
  obtain ⟨t, ht, et⟩ := G.d2
  obtain ⟨a, b, ha, hb, ec⟩ := G.c
  refine ⟨G.ok, ⟨add (mul s w) t, ok_add (ok_mul hs hw) ht, ?_⟩, ⟨s, hs, es⟩, ⟨b, Qt.sub a (mul w b), hb, ok_sub ha (ok_mul hw hb), ?_⟩⟩
  · rw [mul_add G.ok (ok_mul hs hw) ht, ← mul_assoc G.ok hs hw, ← es, ← et, add_sub_cancel']
  · rw [ec, sub_mul hx (ok_mul ho hw) hb, mul_assoc ho hw hb, mul_sub ho ha (ok_mul hw hb)]
    unfold add Qt.sub
    exact Qt.ext (by simp only []; omega) (by simp only []; omega) (by simp only []; omega) (by simp only []; omega)
abbrev CT : DT := dTru (dOp vNe (dPeek 3) (dCst D_NOUGHT))
abbrev CB : DS := dPar 2 3 (dVar 3) (dOp vIx (dCallN 2 m_left_by (dCons (dVar 2) (dCons (dVar 3) dNil))) (dCst (.int 1)))
theorem nought_D : D_NOUGHT = Qt.zero.D := rfl
theorem vne_D (x y : Qt) : vNe x.D y.D = .ret (.bool (!decide (x = y))) := (vNe_eqv (d := x.D) (e := y.D) (sh_q4 _ _ _ _) (sh_q4 _ _ _ _) rfl rfl).trans (by rw [eqv_D])
theorem common_go (x0 x1 : Slot) : ∀ (n : Nat) (x o : Qt), x.Ok → o.Ok → nsq x < 2 ^ 1400 → nsq o < 2 ^ 1400 → nsq o < 2 ^ n → ∃ g, whileGo CT CB (n + 1) [x0, x1, .val x.D, .val o.D] = .ret (.nx [x0, x1, .val g.D, .val Qt.zero.D]) ∧ Gcd x o g ∧ nsq g < 2 ^ 1400
  | n, x, o, hx, ho, bx, bo, hn => by
    have e : whileGo CT CB (n + 1) [x0, x1, .val x.D, .val o.D] = (CT [x0, x1, .val x.D, .val o.D]).bind fun b => if b = true then (CB [x0, x1, .val x.D, .val o.D]).bind fun r => match r with
      | .nx e => whileGo CT CB n e
      | .ct e => whileGo CT CB n e
      | .bk e => .ret (.nx e)
      | .rt d => .ret (.rt d)
      else .ret (.nx [x0, x1, .val x.D, .val o.D]) := by
      rw [whileGo] <;> rfl
    have ht : CT [x0, x1, .val x.D, .val o.D] = .ret (!decide (o = Qt.zero)) := tru_b ((op2 (d1 := o.D) (d2 := Qt.zero.D) rfl rfl).trans (vne_D o Qt.zero))
    rw [e, ht, Cm.ret_bind]
    by_cases z : o = Qt.zero
    · subst z
      exact ⟨x, rfl, gcd_zero hx, bx⟩
    · have h0 : nsq o ≠ 0 := fun h => z (nsq_zero h)
      have hp := nsq_nonneg o
      obtain ⟨w, ew, hw, _, hle, _⟩ := ev_left_by hx ho ((nsq_bq (k := 700) bx).mono (by decide)) (nsq_bq (k := 700) bo) h0
      have hr := ok_sub hx (ok_mul ho hw)
      rw [decide_eq_false z, Bool.not_false, if_pos rfl]
      have eb : CB [x0, x1, .val x.D, .val o.D] = .ret (.nx [x0, x1, .val o.D, .val (Qt.sub x (mul o w)).D]) := by
        have c1 := (call2 m_left_by (env := [x0, x1, .val x.D, .val o.D]) (f := dVar 2) (f2 := dVar 3) (d := x.D) (d2 := o.D) rfl rfl).trans ew
        have c2 : dOp vIx (dCallN 2 m_left_by (dCons (dVar 2) (dCons (dVar 3) dNil))) (dCst (.int 1)) [x0, x1, .val x.D, .val o.D] = .ret (Qt.sub x (mul o w)).D := (op2 c1 (d2 := .int 1) rfl).trans (by rw [r_ix_t, at1])
        unfold CB
        rw [r_par]
        show (Cm.bind (Cm.ret o.D) _) = _
        rw [Cm.ret_bind, c2]
        rfl
      rw [eb, Cm.ret_bind]
      simp only []
      cases n with
      | zero =>
        exfalso
        have : (2 : Int) ^ 0 = 1 := rfl
        omega
      | succ n =>
        have hn' : nsq (Qt.sub x (mul o w)) < 2 ^ n := by
          have : (2 : Int) ^ (n + 1) = 2 ^ n * 2 := Int.pow_succ ..
          generalize (2 : Int) ^ n = p at *
          omega
        have br : nsq (Qt.sub x (mul o w)) < 2 ^ 1400 := by
          generalize (2 : Int) ^ 1400 = p at *
          omega
        obtain ⟨g, eg, G, bg⟩ := common_go x0 x1 n o (Qt.sub x (mul o w)) ho hr bo br hn'
        exact ⟨g, eg, gcd_step hx ho hw G, bg⟩
end Fw

set_option linter.all false
set_option autoImplicit false
set_option maxRecDepth 100000
set_option exponentiation.threshold 2000
set_option maxHeartbeats 4000000
namespace Fw
open PySem Fs Fq Qt
/-! ## first_by, left_common -/
theorem D_units : D_UNITS = .tuple (U24.map D) := rfl
theorem len_units : (U24.map D).length = 24 := rfl
def fst (x : Qt) : Qt := maxQ (mul x ⟨-2, 0, 0, 0⟩) (U24.tail.map fun u => mul x u)
theorem fst_mem (x : Qt) : ∃ u ∈ U24, fst x = mul x u := by
  have h : fst x ∈ U24.map fun u => mul x u := (maxQ_spec (U24.tail.map fun u => mul x u) (mul x ⟨-2, 0, 0, 0⟩)).1
  obtain ⟨u, hu, e⟩ := List.mem_map.mp h
  exact ⟨u, hu, e.symm⟩
theorem max_fst (x : Qt) : cMaxL [.list ((U24.map fun u => mul x u).map D)] = .ret (fst x).D := by
  have h1 := shaped_Ds (U24.map fun u => mul x u)
  have h2 := alike_D (U24.map fun u => mul x u)
  have e : (U24.map fun u => mul x u).map D = (mul x ⟨-2, 0, 0, 0⟩).D :: (U24.tail.map fun u => mul x u).map D := rfl
  rw [e] at h1 h2 ⊢
  have e2 : ∀ (y : D) (ys : List D), cMaxL [.list (y :: ys)] = if SeqAt.shaped (.list (y :: ys)) = true ∧ alikeB (y :: ys) = true then .ret (PySem.W.maxD y ys) else .bad := fun _ _ => rfl
  rw [e2, if_pos ⟨h1, h2⟩, maxD_D]
  rfl
theorem fst_go {x : Qt} (hb : Bq 3000 x) : ∀ us : List Qt, (∀ u ∈ us, u ∈ U24) → lcGo (gN 1) dYes (dCallN 2 m_product_by (dCons (dVar 0) (dCons (dVar 1) dNil))) (us.map D) [.val x.D, .no] = .ret ((us.map fun u => mul x u).map D) := by
  intro us
  induction us with
  | nil => intro _; rfl
  | cons u us ih =>
    intro h
    have hu := h u List.mem_cons_self
    have ih := ih fun v hv => h v (List.mem_cons_of_mem _ hv)
    rw [List.map_cons, r_lc1, r_gN, Cm.ret_bind, r_yes, Cm.ret_bind, if_pos rfl]
    have e := (call2 m_product_by (env := [.val x.D, .val u.D]) (f := dVar 0) (f2 := dVar 1) (d := x.D) (d2 := u.D) rfl rfl).trans (ev_prodK hb ((u_bq hu).mono (by decide)))
    have e0 : ([.val x.D, .no] : Fs.Env).set 1 (.val u.D) = [.val x.D, .val u.D] := rfl
    rw [e0, e, Cm.ret_bind, if_pos (show flatD (mul x u).D = true from rfl), ih]
    rfl
theorem ev_first {x : Qt} (hb : Bq 3000 x) : m_first_by [x.D] = .ret (fst x).D := by
  have h := lc_run (fi := dItems (dCst D_UNITS)) (vs := [1]) (env := [.val x.D, .no]) (items := U24.map D) (by rw [D_units]; rfl) (by rw [len_units]; decide) (fst_go hb U24 fun u h => h)
  have e : m_first_by [x.D] = (S_first_by [.val x.D, .no]).bind outD := rfl
  rw [e]
  unfold S_first_by
  rw [r_ret, r_call, r_cons, h, Cm.ret_bind, r_nil, Cm.ret_bind, Cm.ret_bind, max_fst]
  rfl
theorem gcd_unit {x o g u : Qt} (hx : x.Ok) (ho : o.Ok) (hu : u ∈ U24) (G : Gcd x o g) : Gcd x o (mul g u) := by
  obtain ⟨s, hs, es⟩ := G.d1
  obtain ⟨t, ht, et⟩ := G.d2
  obtain ⟨a, b, ha, hb, ec⟩ := G.c
  obtain ⟨c1, c2, c3⟩ := u_conj u hu
  have ou := u_ok hu
  have oc := u_ok c1
  have back : ∀ s : Qt, s.Ok → mul g s = mul (mul g u) (mul (conj u) s) := fun s hs => by
    rw [mul_assoc G.ok ou (ok_mul oc hs), ← mul_assoc ou oc hs, c2, one_mul]
  refine ⟨ok_mul G.ok ou, ⟨mul (conj u) s, ok_mul oc hs, by rw [← back s hs]; exact es⟩, ⟨mul (conj u) t, ok_mul oc ht, by rw [← back t ht]; exact et⟩, ⟨mul a u, mul b u, ok_mul ha ou, ok_mul hb ou, ?_⟩⟩
  have am : mul (add (mul x a) (mul o b)) u = add (mul (mul x a) u) (mul (mul o b) u) := by
    have H1 := pr_mul (ok_mul hx ha) ou
    have H2 := pr_mul (ok_mul ho hb) ou
    refine pr_eq ?_
    generalize mul (mul x a) u = p at *
    generalize mul (mul o b) u = q at *
    generalize mul x a = y at *
    generalize mul o b = z at *
    obtain ⟨a1, a2, a3, a4⟩ := H1
    obtain ⟨b1, b2, b3, b4⟩ := H2
    refine ⟨?_, ?_, ?_, ?_⟩ <;> simp only [add] <;> grind
  rw [ec, am, mul_assoc hx ha ou, mul_assoc ho hb ou]
/-- the common left divisor, normed -/
theorem ev_left_common {x o : Qt} (hx : x.Ok) (ho : o.Ok) (bx : nsq x < 2 ^ 1400) (bo : nsq o < 2 ^ 1400) : ∃ g : Qt, m_left_common [x.D, o.D] = .ret (fst g).D ∧ Gcd x o g ∧ Gcd x o (fst g) := by
  obtain ⟨g, eg, G, bg⟩ := common_go (.val x.D) (.val o.D) 999999 x o hx ho bx bo (Int.lt_of_lt_of_le bo (by
    have : (2 : Nat) ^ 1400 ≤ 2 ^ 999999 := Nat.pow_le_pow_right (by decide) (by decide)
    exact_mod_cast this))
  refine ⟨g, ?_, G, ?_⟩
  · have e : m_left_common [x.D, o.D] = (S_left_common [.val x.D, .val o.D, .no, .no]).bind outD := rfl
    rw [e]
    unfold S_left_common
    have s1 : dPar 2 3 (dVar 0) (dVar 1) [.val x.D, .val o.D, .no, .no] = .ret (.nx [.val x.D, .val o.D, .val x.D, .val o.D]) := rfl
    rw [r_seq, s1, Cm.ret_bind]
    simp only []
    have eg' : whileGo (dTru (dOp vNe (dPeek 3) (dCst D_NOUGHT))) (dPar 2 3 (dVar 3) (dOp vIx (dCallN 2 m_left_by (dCons (dVar 2) (dCons (dVar 3) dNil))) (dCst (.int 1)))) FUEL [.val x.D, .val o.D, .val x.D, .val o.D] = .ret (.nx [.val x.D, .val o.D, .val g.D, .val Qt.zero.D]) := eg
    rw [r_seq, eg', Cm.ret_bind]
    simp only []
    rw [r_ret, call1 m_first_by (d := g.D) rfl, ev_first ((nsq_bq (k := 700) bg).mono (by decide))]
    rfl
  · obtain ⟨u, hu, eu⟩ := fst_mem g
    rw [eu]
    exact gcd_unit hx ho hu G
end Fw

set_option linter.all false
set_option autoImplicit false
set_option maxRecDepth 100000
set_option exponentiation.threshold 2000
set_option maxHeartbeats 4000000
namespace Fw
open PySem Fs Fq Qt
/-! ## left_by_prime -/
theorem fst_unit {x v : Qt} (hx : x.Ok) (hv : v ∈ U24) : fst (mul x v) = fst x := by
  obtain ⟨c1, c2, c3⟩ := u_conj v hv
  refine maxQ_same (fun z hz => ?_) (fun z hz => ?_)
  · have hz' : z ∈ U24.map fun u => mul (mul x v) u := hz
    show z ∈ U24.map fun u => mul x u
    obtain ⟨u, hu, rfl⟩ := List.mem_map.mp hz'
    exact List.mem_map.mpr ⟨mul v u, u_mul v hv u hu, (mul_assoc hx (u_ok hv) (u_ok hu)).symm⟩
  · have hz' : z ∈ U24.map fun u => mul x u := hz
    show z ∈ U24.map fun u => mul (mul x v) u
    obtain ⟨u, hu, rfl⟩ := List.mem_map.mp hz'
    refine List.mem_map.mpr ⟨mul (conj v) u, u_mul _ c1 u hu, ?_⟩
    show mul (mul x v) (mul (conj v) u) = mul x u
    rw [mul_assoc hx (u_ok hv) (u_ok (u_mul _ c1 u hu)), ← mul_assoc (u_ok hv) (u_ok c1) (u_ok hu), c2, one_mul]
def pQ (p : Int) : Qt := ⟨2 * p, 0, 0, 0⟩
theorem ev_left_by_prime {x : Qt} {p : Int} (hx : x.Ok) (bx : nsq x < 2 ^ 1400) (h0 : 0 < p) (h1 : p < 1000) : ∃ g : Qt, m_left_by_prime [x.D, .int p] = .ret (fst g).D ∧ Gcd x (pQ p) g := by
  haveI : Bd 10 p := ⟨by omega⟩
  have bp : nsq (pQ p) < 2 ^ 1400 := by
    have e : nsq (pQ p) = 4 * (p * p) := by simp only [nsq, pQ]; grind
    have h2 : p * p ≤ 1000 * 1000 := Int.mul_le_mul (by omega) (by omega) (by omega) (by omega)
    have h3 : (4000000 : Int) < 2 ^ 1400 := by decide +kernel
    generalize (2 : Int) ^ 1400 = q at *
    omega
  obtain ⟨g, eg, G, _⟩ := ev_left_common hx (ok_p p) bx bp
  refine ⟨g, ?_, G⟩
  have e : m_left_by_prime [x.D, .int p] = (S_left_by_prime [.val x.D, .val (.int p)]).bind outD := rfl
  rw [e]
  unfold S_left_by_prime
  have ep : dTupF (dCons (dOp vMul (dCst (.int 2)) (dPeek 1)) (dCons (dCst (.int 0)) (dCons (dCst (.int 0)) (dCons (dCst (.int 0)) dNil)))) [.val x.D, .val (.int p)] = .ret (pQ p).D := by
    rw [r_tupF, r_cons, op2 (d1 := .int 2) (d2 := .int p) rfl rfl, vMul_a (by decide)]
    rfl
  have eg' : m_left_common [x.D, (pQ p).D] = .ret (fst g).D := eg
  rw [r_ret, call2 m_left_common (d := x.D) rfl ep, eg']
  rfl
/-- the normed left divisor of size p -/
theorem left_prime_fst {x g f s' t' : Qt} {p n : Int} (hp : 1 < p) (pr : ∀ c d : Int, 0 ≤ c → 0 ≤ d → c * d = p * p → c = 1 ∨ c = p ∨ d = 1) (hx : x.Ok) (G : Gcd x (pQ p) g) (hn : nsq x = 4 * (p * n)) (nd : ¬ Dv p x)
    (hf : f.Ok) (hs : s'.Ok) (ht : t'.Ok) (hfp : nsq f = 4 * p) (d1 : x = mul f s') (d2 : pQ p = mul f t') : fst g = fst f := by
  obtain ⟨s, hs1, es⟩ := G.d1
  obtain ⟨t, ht1, et⟩ := G.d2
  obtain ⟨a, b, ha, hb, ec⟩ := G.c
  have hg := gcd_size hp pr hx G.ok ha hb hs1 ht1 es et ec hn nd
  obtain ⟨u, hu, nu, eu⟩ := gcd_only (by omega) hx hf ha hb hs ht ec hg hfp d1 d2
  rw [eu, fst_unit hf (unit_mem hu nu)]
end Fw

set_option linter.all false
set_option autoImplicit false
set_option maxRecDepth 100000
set_option exponentiation.threshold 2000
set_option maxHeartbeats 2000000
namespace Fw
open PySem Fs Fq Qt
theorem veq_D (x y : Qt) : vEq x.D y.D = .ret (.bool (decide (x = y))) := (vEq_eqv (d := x.D) (e := y.D) (sh_q4 _ _ _ _) (sh_q4 _ _ _ _) rfl rfl).trans (by rw [eqv_D])
theorem asg2 {f : DE} {E : Fs.Env} {d1 d2 : D} {i j : Nat} (h : f E = .ret (.tuple [d1, d2])) : dAsg f (gTp 2 (gsCons (gN i) (gsCons (gN j) gsNil))) E = .ret (.nx ((E.set i (.val d1)).set j (.val d2))) := by
  rw [r_asg, h]; rfl
theorem ev_sq {x : Qt} (hb : Bq 600 x) : m_short_quad [x.D] = .ret x.D := by
  haveI := hb.a
  haveI := hb.b
  haveI := hb.c
  haveI := hb.d
  show m_short_quad [q4 x.a x.b x.c x.d] = _
  simp [m_short_quad, S_short_quad, ev_is_short, Qt.D]
theorem ev_two {x y : Qt} (hbx : Bq 600 x) (hby : Bq 600 y) (hx : x.Ok) (hy : y.Ok) : m_need_two [x.D, y.D] = .ret .none := by
  haveI := hbx.a
  haveI := hbx.b
  haveI := hbx.c
  haveI := hbx.d
  haveI := hby.a
  haveI := hby.b
  haveI := hby.c
  haveI := hby.d
  show m_need_two [q4 x.a x.b x.c x.d, q4 y.a y.b y.c y.d] = _
  simp [m_need_two, S_need_two, ev_is_quad_of x.a x.b x.c x.d hx.b hx.c hx.d, ev_is_quad_of y.a y.b y.c y.d hy.b hy.c hy.d]
theorem ev_needQ {x : Qt} (hb : Bq 600 x) (hx : x.Ok) : m_need_quad [x.D] = .ret .none := by
  haveI := hb.a
  haveI := hb.b
  haveI := hb.c
  haveI := hb.d
  exact ev_need_quad x.a x.b x.c x.d hx.b hx.c hx.d
theorem ev_backQ {x : Qt} (hb : Bq 600 x) (hx : x.Ok) : m_back [x.D] = .ret (conj x).D := by
  have e : m_back [x.D] = (S_back [.val x.D]).bind outD := rfl
  rw [e]
  unfold S_back
  rw [r_seq, r_drop, call1 m_need_quad (d := x.D) rfl, ev_needQ hb hx, Cm.ret_bind, Cm.ret_bind]
  simp only []
  rw [r_ret, call1 m_back_by (d := x.D) rfl, ev_back]
  rfl
theorem ev_productQ {x y : Qt} (hbx : Bq 299 x) (hby : Bq 300 y) (hx : x.Ok) (hy : y.Ok) : m_product [x.D, y.D] = .ret (mul x y).D := by
  have e : m_product [x.D, y.D] = (S_product [.val x.D, .val y.D]).bind outD := rfl
  rw [e]
  unfold S_product
  rw [r_seq, r_drop, call2 m_need_two (d := x.D) (d2 := y.D) rfl rfl, ev_two (hbx.mono (by decide)) (hby.mono (by decide)) hx hy, Cm.ret_bind, Cm.ret_bind]
  simp only []
  have p := (call2 m_product_by (env := [.val x.D, .val y.D]) (f := dVar 0) (f2 := dVar 1) (d := x.D) (d2 := y.D) rfl rfl).trans (ev_prodK (hbx.mono (by decide)) (hby.mono (by decide)))
  rw [r_ret, call1 m_short_quad (d := (mul x y).D) p, ev_sq ((hbx.mulT hby).mono (by decide))]
  rfl
theorem ev_content {x : Qt} (hb : Bq 600 x) (h0 : nsq x ≠ 0) : ∃ r : D, m_content_by [x.D] = .ret (.tuple [.int (cont x), r]) := by
  have sp := shr_pos h0
  have hl : (shr x).log2 < 9000 := by
    obtain ⟨h1, h2, h3, h4⟩ := shr_dvd x
    have nz : x.a ≠ 0 ∨ x.b ≠ 0 ∨ x.c ≠ 0 ∨ x.d ≠ 0 := by
      by_cases a : x.a = 0 <;> by_cases b : x.b = 0 <;> by_cases c : x.c = 0 <;> by_cases d : x.d = 0 <;> simp_all [nsq]
    have lt : shr x < 2 ^ 600 := by
      have go : ∀ i : Int, Bd 600 i → (shr x : Int) ∣ i → i ≠ 0 → shr x < 2 ^ 600 := fun i b d n => Nat.lt_of_le_of_lt (Nat.le_of_dvd (by omega) (Int.ofNat_dvd_left.mp d)) b.lt
      rcases nz with n | n | n | n
      · exact go _ hb.a h1 n
      · exact go _ hb.b h2 n
      · exact go _ hb.c h3 n
      · exact go _ hb.d h4 n
    have := (Nat.log2_lt (by omega)).mpr lt
    omega
  have e1 : Nat.gcd (Nat.gcd x.a.natAbs x.b.natAbs) (Nat.gcd x.c.natAbs x.d.natAbs) = shr x := rfl
  haveI : Bd 600 (2 : Int) := ⟨by decide⟩
  show ∃ r, m_content_by [q4 x.a x.b x.c x.d] = _
  by_cases c : x.a / shr x % 2 = 1 ∧ x.b / shr x % 2 = 1 ∧ x.c / shr x % 2 = 1 ∧ x.d / shr x % 2 = 1
  · refine ⟨.tuple [.int (x.a / shr x), .int (x.b / shr x), .int (x.c / shr x), .int (x.d / shr x)], ?_⟩
    have ec : cont x = shr x := if_pos c
    obtain ⟨c1, c2, c3, c4⟩ := c
    rw [ec]
    simp [m_content_by, S_content_by, e1, sp, hl, c1, c2, c3, c4]
  · have ec : cont x = (shr x : Int) / 2 := if_neg c
    have bd : ∀ i : Int, Bd 600 i → Bd 600 (i / shr x) := fun i b => ⟨Nat.lt_of_le_of_lt (Int.natAbs_ediv_le_natAbs _ _) b.lt⟩
    haveI := bd _ hb.a
    haveI := bd _ hb.b
    haveI := bd _ hb.c
    haveI := bd _ hb.d
    refine ⟨.tuple [.int (2 * (x.a / shr x)), .int (2 * (x.b / shr x)), .int (2 * (x.c / shr x)), .int (2 * (x.d / shr x))], ?_⟩
    rw [ec]
    have cc : (decide (x.a / shr x % 2 = 1) && (decide (x.b / shr x % 2 = 1) && (decide (x.c / shr x % 2 = 1) && decide (x.d / shr x % 2 = 1)))) = false := by
      rw [← Bool.not_eq_true]
      simpa using fun a b c' d => c ⟨a, b, c', d⟩
    simp [m_content_by, S_content_by, m_times_number, S_times_number, e1, sp, hl, vMul_a, c]
theorem ev_isdiv_by {x : Qt} {p : Nat} (hb : Bq 600 x) (hx : x.Ok) (h0 : nsq x ≠ 0) (hp : 0 < p) : m_is_divided_by [x.D, .int p] = .ret (.bool (cont x % p == 0)) := by
  obtain ⟨r, er⟩ := ev_content hb h0
  have z : x ≠ Qt.zero := by rintro rfl; exact h0 rfl
  have e : m_is_divided_by [x.D, .int p] = (S_is_divided_by [.val x.D, .val (.int p)]).bind outD := rfl
  have hv : dOp vEq (dPeek 0) (dCst D_NOUGHT) [.val x.D, .val (.int p)] = .ret (.bool false) := by
    rw [op2 (d1 := x.D) (d2 := Qt.zero.D) rfl rfl, veq_D, decide_eq_false z]
  have hc : dOp vEq (dOp vMod (dOp vIx (dCallN 1 m_content_by (dCons (dVar 0) dNil)) (dCst (.int 0))) (dPeek 1)) (dCst (.int 0)) [.val x.D, .val (.int p)] = .ret (.bool (cont x % p == 0)) := by
    have c1 := (call1 m_content_by (env := [.val x.D, .val (.int p)]) (f := dVar 0) (d := x.D) rfl).trans er
    have c2 : dOp vIx (dCallN 1 m_content_by (dCons (dVar 0) dNil)) (dCst (.int 0)) [.val x.D, .val (.int p)] = .ret (.int (cont x)) := (op2 c1 (d2 := .int 0) rfl).trans (by rw [r_ix_t, at0])
    have c3 : dOp vMod (dOp vIx (dCallN 1 m_content_by (dCons (dVar 0) dNil)) (dCst (.int 0))) (dPeek 1) [.val x.D, .val (.int p)] = .ret (.int (cont x % p)) := (op2 c2 (d2 := .int p) rfl).trans (by rw [r_mod, if_pos (by omega)])
    rw [op2 c3 (d2 := .int 0) rfl, r_eq_ii]
  rw [e]
  unfold S_is_divided_by
  rw [r_ret, r_orV, hv, Cm.ret_bind]
  simp only [Bool.false_eq_true, if_false]
  rw [hc]
  rfl
theorem ev_isdiv {x : Qt} {p : Nat} (hb : Bq 600 x) (hx : x.Ok) (h0 : nsq x ≠ 0) (hp : 0 < p) (hpr : m_need_prime [.int p] = .ret .none) : m_is_divided [x.D, .int p] = .ret (.bool (cont x % p == 0)) := by
  have e : m_is_divided [x.D, .int p] = (S_is_divided [.val x.D, .val (.int p)]).bind outD := rfl
  rw [e]
  unfold S_is_divided
  rw [r_seq, r_drop, call1 m_need_quad (d := x.D) rfl, ev_needQ hb hx, Cm.ret_bind, Cm.ret_bind]
  simp only []
  rw [r_seq, r_drop, call1 m_need_prime (d := .int p) rfl, hpr, Cm.ret_bind, Cm.ret_bind]
  simp only []
  rw [r_ret, call2 m_is_divided_by (d := x.D) (d2 := .int p) rfl rfl, ev_isdiv_by hb hx h0 hp]
  rfl
end Fw

set_option linter.all false
set_option autoImplicit false
set_option maxRecDepth 100000
set_option exponentiation.threshold 2000
set_option maxHeartbeats 2000000
namespace Fw
open PySem Fs Fq Qt
theorem five {q : Int} (h : q = 3 ∨ q = 5 ∨ q = 7 ∨ q = 11 ∨ q = 13) : m_need_odd [.int q] = .ret .none := by
  rcases h with rfl | rfl | rfl | rfl | rfl <;> rfl
theorem marks3 : m_marks_by [.int 3] = .ret (.tuple [.int 1, .int 1]) := by rfl
theorem marks5 : m_marks_by [.int 5] = .ret (.tuple [.int 0, .int 2]) := by rfl
theorem marks7 : m_marks_by [.int 7] = .ret (.tuple [.int 2, .int 3]) := by rfl
theorem marks11 : m_marks_by [.int 11] = .ret (.tuple [.int 1, .int 3]) := by rfl
theorem marks13 : m_marks_by [.int 13] = .ret (.tuple [.int 0, .int 5]) := by rfl
def hf (q n : Int) : Int := if n % q % 2 = 0 then n % q / 2 else (n % q + q) / 2
theorem ev_half (q n : Int) (hq : 0 < q) : m_half_by [.int q, .int n] = .ret (.int (hf q n)) := by
  unfold hf
  by_cases h : n % q % 2 = 0 <;> simp [m_half_by, S_half_by, hq, h]
theorem hf_rng {q n : Int} (h3 : 3 ≤ q) (ho : q % 2 = 1) : 0 ≤ hf q n ∧ hf q n < q := by
  unfold hf
  have h1 := Int.emod_nonneg n (show q ≠ 0 by omega)
  have h2 := Int.emod_lt_of_pos n (show 0 < q by omega)
  split <;> omega
theorem hf_two {q n : Int} (h3 : 3 ≤ q) (ho : q % 2 = 1) : (2 * hf q n) % q = n % q := by
  unfold hf
  have h1 := Int.emod_nonneg n (show q ≠ 0 by omega)
  have h2 := Int.emod_lt_of_pos n (show 0 < q by omega)
  generalize hm : n % q = m at *
  split
  · rw [show 2 * (m / 2) = m by omega, ← hm, cg_mod]
  · rw [show 2 * ((m + q) / 2) = m + q by omega, Int.add_emod_right, ← hm, cg_mod]
theorem hf_cg {q n m : Int} (h : n % q = m % q) : hf q n = hf q m := by unfold hf; rw [h]
structure Mk (q e f : Int) : Prop where
  m : m_marks_by [.int q] = .ret (.tuple [.int e, .int f])
  be : Bd 10 e
  bf : Bd 10 f
  s : (e * e + f * f) % q = (-1) % q
  o : q % 2 = 1
  g : 3 ≤ q
  l : q ≤ 13
  n : m_need_odd [.int q] = .ret .none
theorem marks_ex {q : Int} (hq : Five q) : ∃ e f, Mk q e f := by
  rcases hq with rfl | rfl | rfl | rfl | rfl
  · exact ⟨1, 1, marks3, ⟨by decide⟩, ⟨by decide⟩, by decide, by decide, by decide, by decide, five (by simp)⟩
  · exact ⟨0, 2, marks5, ⟨by decide⟩, ⟨by decide⟩, by decide, by decide, by decide, by decide, five (by simp)⟩
  · exact ⟨2, 3, marks7, ⟨by decide⟩, ⟨by decide⟩, by decide, by decide, by decide, by decide, five (by simp)⟩
  · exact ⟨1, 3, marks11, ⟨by decide⟩, ⟨by decide⟩, by decide, by decide, by decide, by decide, five (by simp)⟩
  · exact ⟨0, 5, marks13, ⟨by decide⟩, ⟨by decide⟩, by decide, by decide, by decide, by decide, five (by simp)⟩
def tb (q e f a b c d : Int) : D := q4 (hf q (a + c * e - d * f)) (hf q (c * f + d * e - b)) (hf q (b + c * f + d * e)) (hf q (a - c * e + d * f))
theorem ev_table {q e f a b c d : Int} (M : Mk q e f) (Q : Qd a b c d) : m_table_of [.int q, q4 a b c d] = .ret (tb q e f a b c d) := by
  haveI := Q.ba
  haveI := Q.bb
  haveI := Q.bc
  haveI := Q.bd
  haveI := M.be
  haveI := M.bf
  have hq : 0 < q := by have := M.g; omega
  simp [m_table_of, S_table_of, M.n, ev_need_quad a b c d Q.hb Q.hc Q.hd, m_table_by, S_table_by, M.m, vMul_a, ev_half, hq, tb]
theorem can2 {m x y : Int} (ho : m % 2 = 1) (h : 2 * x % m = 2 * y % m) : x % m = y % m := by
  have : (2 * x - 2 * y) % m = 0 := by rw [Int.sub_emod, h, Int.sub_self, Int.zero_emod]
  obtain ⟨k, hk⟩ := Int.dvd_of_emod_eq_zero this
  obtain ⟨j, hj⟩ : ∃ j, m = 2 * j + 1 := ⟨m / 2, by omega⟩
  have h2 : k % 2 = 0 := by
    subst hj
    have : (2 * j + 1) * k = 2 * (j * k) + k := by rw [Int.add_mul, Int.one_mul, Int.mul_assoc]
    rw [this] at hk
    omega
  obtain ⟨l, hl⟩ : ∃ l, k = 2 * l := ⟨k / 2, by omega⟩
  subst hl
  have h3 : x = y + m * l := by
    have : m * (2 * l) = 2 * (m * l) := by rw [← Int.mul_assoc, Int.mul_comm m 2, Int.mul_assoc]
    omega
  rw [h3, Int.add_mul_emod_self_left]
theorem can4 {m x y : Int} (ho : m % 2 = 1) (h : 4 * x % m = 4 * y % m) : x % m = y % m := can2 ho (can2 ho (by
  rw [show 2 * (2 * x) = 4 * x by omega, show 2 * (2 * y) = 4 * y by omega]; exact h))
theorem cg_ef {m e f X Y K : Int} (hs : (e * e + f * f) % m = (-1) % m) (h : X = Y + K * (e * e + f * f + 1)) : X % m = Y % m := by
  have h1 : (e * e + f * f + 1) % m = 0 := by
    have : (e * e + f * f + 1) % m = (-1 + 1) % m := cg_add hs rfl
    rw [this]; exact Int.zero_emod _
  have h2 : K * (e * e + f * f + 1) % m = 0 := by rw [Int.mul_emod, h1, Int.mul_zero, Int.zero_emod]
  have h3 : X % m = (Y + 0) % m := by rw [h]; exact cg_add rfl (by rw [h2, Int.zero_emod])
  rw [h3, Int.add_zero]
theorem low_cg {m e f a b c d : Int} (M : Mk m e f) :
    (2 * hf m (hf m (a + c * e - d * f) + hf m (a - c * e + d * f))) % m = a % m ∧ (2 * hf m (hf m (b + c * f + d * e) - hf m (c * f + d * e - b))) % m = b % m ∧
    (2 * hf m (-(e * (hf m (a + c * e - d * f) - hf m (a - c * e + d * f)) + f * (hf m (c * f + d * e - b) + hf m (b + c * f + d * e))))) % m = c % m ∧
    (2 * hf m (f * (hf m (a + c * e - d * f) - hf m (a - c * e + d * f)) - e * (hf m (c * f + d * e - b) + hf m (b + c * f + d * e)))) % m = d % m := by
  have g := M.g
  have o := M.o
  have hs := M.s
  rw [hf_two g o, hf_two g o, hf_two g o, hf_two g o]
  have r1 := hf_two (n := a + c * e - d * f) g o
  have r2 := hf_two (n := c * f + d * e - b) g o
  have r3 := hf_two (n := b + c * f + d * e) g o
  have r4 := hf_two (n := a - c * e + d * f) g o
  generalize hf m (a + c * e - d * f) = A at *
  generalize hf m (c * f + d * e - b) = B at *
  generalize hf m (b + c * f + d * e) = C at *
  generalize hf m (a - c * e + d * f) = E at *
  clear M g
  refine ⟨can2 o ?_, can2 o ?_, can2 o ?_, can2 o ?_⟩
  · have := cg_add r1 r4
    rw [show 2 * (A + E) = 2 * A + 2 * E by omega, this]
    congr 1
    omega
  · have := cg_sub r3 r2
    rw [show 2 * (C - B) = 2 * C - 2 * B by omega, this]
    congr 1
    omega
  · have h1 := cg_mul (x := e) (y := e) rfl (cg_sub r1 r4)
    have h2 := cg_mul (x := f) (y := f) rfl (cg_add r2 r3)
    have h3 := cg_sub (x := 0) (y := 0) rfl (cg_add h1 h2)
    rw [show 2 * -(e * (A - E) + f * (B + C)) = 0 - (e * (2 * A - 2 * E) + f * (2 * B + 2 * C)) by clear r1 r2 r3 r4 h1 h2 h3 hs o; grind, h3]
    exact cg_ef hs (K := -(2 * c)) (by clear r1 r2 r3 r4 h1 h2 h3 hs o; grind)
  · have h1 := cg_mul (x := f) (y := f) rfl (cg_sub r1 r4)
    have h2 := cg_mul (x := e) (y := e) rfl (cg_add r2 r3)
    have h3 := cg_sub h1 h2
    rw [show 2 * (f * (A - E) - e * (B + C)) = f * (2 * A - 2 * E) - e * (2 * B + 2 * C) by clear r1 r2 r3 r4 h1 h2 h3 hs o; grind, h3]
    exact cg_ef hs (K := -(2 * d)) (by clear r1 r2 r3 r4 h1 h2 h3 hs o; grind)
theorem then_one {m h1 h2 h3 h4 r1 r2 r3 r4 R : Int} (ho : m % 2 = 1) (e1 : 2 * h1 % m = r1 % m) (e2 : 2 * h2 % m = r2 % m) (e3 : 2 * h3 % m = r3 % m) (e4 : 2 * h4 % m = r4 % m) (h3m : 3 ≤ m) (hR : (r1 * r2 + r3 * r4) % m = 2 * R % m) :
    (h1 * h2 + h3 * h4) % m = hf m R := by
  have hr := hf_rng (n := R) h3m ho
  rw [← Int.emod_eq_of_lt hr.1 hr.2]
  refine can4 ho ?_
  have h := cg_add (cg_mul e1 e2) (cg_mul e3 e4)
  rw [show 4 * (h1 * h2 + h3 * h4) = 2 * h1 * (2 * h2) + 2 * h3 * (2 * h4) by clear e1 e2 e3 e4 hR hr h; grind, h, hR]
  have h5 := cg_mul (x := 2) (y := 2) rfl (hf_two (n := R) h3m ho)
  rw [show 4 * hf m R = 2 * (2 * hf m R) by omega, h5]
theorem tb_cg {m e f a b c d a' b' c' d' : Int} (ha : a % m = a' % m) (hb : b % m = b' % m) (hc : c % m = c' % m) (hd : d % m = d' % m) : tb m e f a b c d = tb m e f a' b' c' d' := by
  unfold tb
  rw [hf_cg (cg_sub (cg_add ha (cg_mul hc (rfl : e % m = e % m))) (cg_mul hd (rfl : f % m = f % m))), hf_cg (cg_sub (cg_add (cg_mul hc (rfl : f % m = f % m)) (cg_mul hd (rfl : e % m = e % m))) hb),
    hf_cg (cg_add (cg_add hb (cg_mul hc (rfl : f % m = f % m))) (cg_mul hd (rfl : e % m = e % m))), hf_cg (cg_add (cg_sub ha (cg_mul hc (rfl : e % m = e % m))) (cg_mul hd (rfl : f % m = f % m)))]
def mdQ (q : Int) (x : Qt) : Qt := ⟨x.a % q, x.b % q, x.c % q, x.d % q⟩
open Classical in
noncomputable def invq (q n : Int) : Int := if h : ∃ k : Int, k * n % q = 1 then Classical.choose h else 0
theorem invq_spec {q n : Int} (hq : Five q) (hn : n % q ≠ 0) : invq q n * n % q = 1 := by
  obtain ⟨k, _, _, hk⟩ := inv_ex hq hn
  have h : ∃ k : Int, k * n % q = 1 := ⟨k, hk⟩
  unfold invq
  rw [dif_pos h]
  exact Classical.choose_spec h
theorem five_one {q : Int} (hq : Five q) : 1 % q = 1 := by rcases hq with rfl | rfl | rfl | rfl | rfl <;> rfl
theorem five_pos {q : Int} (hq : Five q) : 0 < q := by rcases hq with rfl | rfl | rfl | rfl | rfl <;> decide
theorem five_odd {q : Int} (hq : Five q) : q % 2 = 1 := by rcases hq with rfl | rfl | rfl | rfl | rfl <;> decide
theorem md_parts {q : Int} {x y : Qt} (h : mdQ q x = mdQ q y) : x.a % q = y.a % q ∧ x.b % q = y.b % q ∧ x.c % q = y.c % q ∧ x.d % q = y.d % q := by
  unfold mdQ at h
  injection h with h1 h2 h3 h4
  exact ⟨h1, h2, h3, h4⟩
theorem md_of {q : Int} {x y : Qt} (h1 : x.a % q = y.a % q) (h2 : x.b % q = y.b % q) (h3 : x.c % q = y.c % q) (h4 : x.d % q = y.d % q) : mdQ q x = mdQ q y := by
  unfold mdQ; rw [h1, h2, h3, h4]
theorem md_md (q : Int) (x : Qt) : mdQ q (mdQ q x) = mdQ q x := md_of (cg_mod _ _) (cg_mod _ _) (cg_mod _ _) (cg_mod _ _)
theorem md_smul {q c c' : Int} {x y : Qt} (hc : c % q = c' % q) (h : mdQ q x = mdQ q y) : mdQ q (smul c x) = mdQ q (smul c' y) := by
  obtain ⟨h1, h2, h3, h4⟩ := md_parts h
  exact md_of (cg_mul hc h1) (cg_mul hc h2) (cg_mul hc h3) (cg_mul hc h4)
theorem zero_iff {q c n : Int} (hq : Five q) (hc : c % q ≠ 0) : c * n % q = 0 ↔ n % q = 0 := by
  constructor
  · intro h
    obtain ⟨k, _, _, hk⟩ := inv_ex hq hc
    have e : k * c * n % q = 1 * n % q := cg_mul (by rw [hk, five_one hq]) rfl
    rw [Int.one_mul] at e
    rw [← e, Int.mul_assoc, Int.mul_emod, h, Int.mul_zero, Int.zero_emod]
  · intro h
    rw [Int.mul_emod, h, Int.mul_zero, Int.zero_emod]
theorem nsq_cg {q : Int} {x y : Qt} (h : mdQ q x = mdQ q y) : nsq x % q = nsq y % q := by
  obtain ⟨h1, h2, h3, h4⟩ := md_parts h
  exact cg_add (cg_add (cg_add (cg_mul h1 h1) (cg_mul h2 h2)) (cg_mul h3 h3)) (cg_mul h4 h4)
theorem nsq_smul (c : Int) (x : Qt) : nsq (smul c x) = c * c * nsq x := by
  simp only [nsq, smul]; grind
theorem mul_cg {q : Int} {x y u v : Qt} (ho : q % 2 = 1) (hx : x.Ok) (hy : y.Ok) (hu : u.Ok) (hv : v.Ok) (h : mdQ q x = mdQ q y) (g : mdQ q u = mdQ q v) : mdQ q (mul x u) = mdQ q (mul y v) := by
  obtain ⟨a1, a2, a3, a4⟩ := pr_mul hx hu
  obtain ⟨b1, b2, b3, b4⟩ := pr_mul hy hv
  obtain ⟨h1, h2, h3, h4⟩ := md_parts h
  obtain ⟨g1, g2, g3, g4⟩ := md_parts g
  refine md_of (can2 ho ?_) (can2 ho ?_) (can2 ho ?_) (can2 ho ?_)
  · rw [← a1, ← b1]; exact cg_sub (cg_sub (cg_sub (cg_mul h1 g1) (cg_mul h2 g2)) (cg_mul h3 g3)) (cg_mul h4 g4)
  · rw [← a2, ← b2]; exact cg_sub (cg_add (cg_add (cg_mul h1 g2) (cg_mul h2 g1)) (cg_mul h3 g4)) (cg_mul h4 g3)
  · rw [← a3, ← b3]; exact cg_add (cg_add (cg_sub (cg_mul h1 g3) (cg_mul h2 g4)) (cg_mul h3 g1)) (cg_mul h4 g2)
  · rw [← a4, ← b4]; exact cg_add (cg_sub (cg_add (cg_mul h1 g4) (cg_mul h2 g3)) (cg_mul h3 g2)) (cg_mul h4 g1)
theorem Five.ne {q : Int} (hq : Five q) : q ≠ 0 := Int.ne_of_gt (five_pos hq)
theorem Five.le {q : Int} (hq : Five q) : 3 ≤ q ∧ q ≤ 13 := by rcases hq with h | h | h | h | h <;> omega
theorem five_mul {q a b : Int} (hq : Five q) (ha : a % q ≠ 0) (hb : b % q ≠ 0) : a * b % q ≠ 0 := fun z => hb ((zero_iff hq ha).mp z)
theorem size_ne {q : Int} {x : Qt} (hx : x.Ok) (hn : nsq x % q ≠ 0) : nsq x / 4 % q ≠ 0 := by
  obtain ⟨n, e, _⟩ := conj_self hx
  rw [e, show 4 * n / 4 = n by omega]
  rw [e] at hn
  intro z
  exact hn (by rw [Int.mul_emod, z, Int.mul_zero, Int.zero_emod])
abbrev lnD (l : Int × Int) : D := .tuple [.int l.1, .int l.2]
def IsL (q : Int) (l : Int × Int) : Prop := l = (0, 1) ∨ (l.1 = 1 ∧ 0 ≤ l.2 ∧ l.2 < q)
noncomputable def ll (q c0 c1 : Int) : Int × Int := if c0 % q = 0 then (0, 1) else (1, invq q c0 * c1 % q)
theorem ll_line {q c0 c1 : Int} (hq : Five q) : IsL q (ll q c0 c1) := by
  unfold ll
  split
  · exact .inl rfl
  · exact .inr ⟨rfl, Int.emod_nonneg _ hq.ne, Int.emod_lt_of_pos _ (five_pos hq)⟩
theorem ll_cg {q c0 c1 d0 d1 : Int} (hq : Five q) (h0 : c0 % q = d0 % q) (h1 : c1 % q = d1 % q) : ll q c0 c1 = ll q d0 d1 := by
  unfold ll
  by_cases z : c0 % q = 0
  · rw [if_pos z, if_pos (by rw [← h0]; exact z)]
  · rw [if_neg z, if_neg (by rw [← h0]; exact z)]
    have := inv_cg (invq_spec hq z) (invq_spec hq (n := d0) (by rw [← h0]; exact z)) h0
    rw [cg_mul this h1]
theorem ll_smul {q m c0 c1 : Int} (hq : Five q) (hm : m % q ≠ 0) : ll q (m * c0) (m * c1) = ll q c0 c1 := by
  unfold ll
  by_cases z : c0 % q = 0
  · rw [if_pos ((zero_iff hq hm).mpr z), if_pos z]
  · have z' : m * c0 % q ≠ 0 := five_mul hq hm z
    rw [if_neg z', if_neg z]
    have i := invq_spec hq z'
    rw [← Int.mul_assoc] at i
    have := inv_cg i (invq_spec hq z) rfl
    rw [show invq q (m * c0) * (m * c1) = invq q (m * c0) * m * c1 by rw [Int.mul_assoc], cg_mul this rfl]
theorem ll_form {q c0 c1 : Int} (hq : Five q) (h : c0 % q ≠ 0 ∨ c1 % q ≠ 0) : ∃ m, m % q ≠ 0 ∧ (ll q c0 c1).1 % q = m * c0 % q ∧ (ll q c0 c1).2 % q = m * c1 % q := by
  have nz : ∀ c, c % q ≠ 0 → invq q c % q ≠ 0 := fun c hc z => by
    have i := invq_spec hq hc
    rw [Int.mul_emod, z, Int.zero_mul, Int.zero_emod] at i
    cases i
  unfold ll
  by_cases z : c0 % q = 0
  · rw [if_pos z]
    have h1 := h.resolve_left (fun g => g z)
    refine ⟨invq q c1, nz _ h1, ?_, ?_⟩
    · rw [Int.mul_emod (invq q c1), z, Int.mul_zero]
    · rw [invq_spec hq h1, five_one hq]
  · rw [if_neg z]
    refine ⟨invq q c0, nz _ z, ?_, cg_mod _ _⟩
    rw [invq_spec hq z, five_one hq]
theorem forGo_find {g : DTg} {s : DS} {Iv : Fs.Env → Prop} {p : D → Bool} {R : D → D} : ∀ {items : List D} {env : Fs.Env}, Iv env → (∀ d ∈ items, ∀ e, Iv e → ∃ e1, g d e = .ret e1 ∧ (p d = true → s e1 = .ret (.rt (R d))) ∧ (p d = false → ∃ e2, s e1 = .ret (.nx e2) ∧ Iv e2)) → (∃ d ∈ items, p d = true) →
    ∃ d ∈ items, p d = true ∧ forGo g s items env = .ret (.rt (R d))
  | [], env, _, _, h => by obtain ⟨d, hd, _⟩ := h; cases hd
  | d :: ds, env, hi, k, h => by
    obtain ⟨e1, h1, h2, h3⟩ := k d List.mem_cons_self env hi
    cases hp : p d with
    | true =>
      refine ⟨d, List.mem_cons_self, hp, ?_⟩
      rw [r_for1, h1, Cm.ret_bind, h2 hp]
      rfl
    | false =>
      obtain ⟨e2, h4, h5⟩ := h3 hp
      obtain ⟨d', hd', hp', e⟩ := forGo_find h5 (fun d hd => k d (List.mem_cons_of_mem _ hd)) (by
        obtain ⟨d0, h0, hp0⟩ := h
        rcases List.mem_cons.mp h0 with rfl | h0
        · rw [hp] at hp0; cases hp0
        · exact ⟨d0, h0, hp0⟩)
      refine ⟨d', List.mem_cons_of_mem _ hd', hp', ?_⟩
      rw [r_for1, h1, Cm.ret_bind, h4]
      exact e
theorem ev_ll {q c0 c1 : Int} (hq : Five q) [Bd 600 c0] : m_least_line [.int q, lnD (c0, c1)] = .ret (lnD (ll q c0 c1)) := by
  have q0 := five_pos hq
  obtain ⟨q1, q2⟩ := hq.le
  have e : m_least_line [.int q, lnD (c0, c1)] = (S_least_line [.val (.int q), .val (lnD (c0, c1)), .no, .no, .no]).bind outD := rfl
  rw [e]
  unfold S_least_line
  have s1 : dAsg (dVar 1) (gTp 2 (gsCons (gN 2) (gsCons (gN 3) gsNil))) [.val (.int q), .val (lnD (c0, c1)), .no, .no, .no] = .ret (.nx [.val (.int q), .val (lnD (c0, c1)), .val (.int c0), .val (.int c1), .no]) := by simp
  rw [r_seq, s1, Cm.ret_bind]
  simp only []
  unfold ll
  by_cases z : c0 % q = 0
  · rw [if_pos z]
    simp [q0, z]
  · rw [if_neg z]
    have s2 : dIfS (dTru (dOp vEq (dOp vMod (dPeek 2) (dPeek 0)) (dCst (.int 0)))) (dRet (dTupF (dCons (dCst (.int 0)) (dCons (dCst (.int 1)) dNil)))) dSkip [.val (.int q), .val (lnD (c0, c1)), .val (.int c0), .val (.int c1), .no] = .ret (.nx [.val (.int q), .val (lnD (c0, c1)), .val (.int c0), .val (.int c1), .no]) := by simp [q0, z]
    rw [r_seq, s2, Cm.ret_bind]
    simp only []
    let p : D → Bool := fun d => match d with | .int n => (c0 * n - c1) % q == 0 | _ => false
    have i := invq_spec hq z
    have hsol : (c0 * (invq q c0 * c1 % q) - c1) % q = 0 := by
      have h1 : c0 * (invq q c0 * c1 % q) % q = 1 * c1 % q := by
        have h2 := cg_mul (q := q) (x := c0) (y := c0) rfl (cg_mod q (invq q c0 * c1))
        rw [h2, ← Int.mul_assoc, Int.mul_comm c0]
        exact cg_mul (by rw [i, five_one hq]) rfl
      have := cg_sub h1 (rfl : c1 % q = c1 % q)
      rw [this, Int.one_mul, Int.sub_self, Int.zero_emod]
    obtain ⟨d, hd, hp, ef⟩ := forGo_find (g := gN 4) (s := dIfS (dTru (dOp vEq (dOp vMod (dOp vSub (dOp vMul (dPeek 2) (dPeek 4)) (dPeek 3)) (dPeek 0)) (dCst (.int 0)))) (dRet (dTupF (dCons (dCst (.int 1)) (dCons (dVar 4) dNil)))) dSkip)
      (Iv := fun E => ∃ y, E = [.val (.int q), .val (lnD (c0, c1)), .val (.int c0), .val (.int c1), y]) (p := p) (R := fun d => .tuple [.int 1, d]) (items := rng 0 q.toNat) (env := [.val (.int q), .val (lnD (c0, c1)), .val (.int c0), .val (.int c1), .no]) ⟨_, rfl⟩ (by
        rintro d hd _ ⟨y, rfl⟩
        obtain ⟨j, hj, rfl⟩ := rng_mem.mp hd
        generalize hn : (0 : Int) + (j : Int) = n
        haveI : Bd 10 n := ⟨by omega⟩
        refine ⟨[.val (.int q), .val (lnD (c0, c1)), .val (.int c0), .val (.int c1), .val (.int n)], rfl, fun h => ?_, fun h => ⟨[.val (.int q), .val (lnD (c0, c1)), .val (.int c0), .val (.int c1), .val (.int n)], ?_, ⟨_, rfl⟩⟩⟩
        · simp [p] at h
          simp [vMul_a, q0, h]
        · simp [p] at h
          simp [vMul_a, q0, h])
      ⟨.int (invq q c0 * c1 % q), rng_mem.mpr ⟨(invq q c0 * c1 % q).toNat, by have := Int.emod_lt_of_pos (invq q c0 * c1) q0; have := Int.emod_nonneg (invq q c0 * c1) hq.ne; omega, by
        have := Int.emod_nonneg (invq q c0 * c1) hq.ne
        congr 1
        omega⟩, by simp [p, hsol]⟩
    obtain ⟨j, hj, rfl⟩ := rng_mem.mp hd
    have hn : (0 : Int) + (j : Int) = invq q c0 * c1 % q := by
      have h1 : (c0 * (0 + (j : Int)) - c1) % q = 0 := by simpa [p] using hp
      have h2 : c0 * (0 + (j : Int)) % q = c1 % q := Int.emod_eq_emod_iff_emod_sub_eq_zero.mpr h1
      have h3 := cg_mul (x := invq q c0) (y := invq q c0) rfl h2
      rw [← Int.mul_assoc] at h3
      have h4 : invq q c0 * c0 * (0 + (j : Int)) % q = 1 * (0 + (j : Int)) % q := cg_mul (by rw [i, five_one hq]) rfl
      rw [h4, Int.one_mul] at h3
      rw [← h3]
      exact (Int.emod_eq_of_lt (by omega) (by omega)).symm
    rw [hn] at ef
    have hr : dFor (dRng1 (dCons (dVar 0) dNil)) (gN 4) (dIfS (dTru (dOp vEq (dOp vMod (dOp vSub (dOp vMul (dPeek 2) (dPeek 4)) (dPeek 3)) (dPeek 0)) (dCst (.int 0)))) (dRet (dTupF (dCons (dCst (.int 1)) (dCons (dVar 4) dNil)))) dSkip) [.val (.int q), .val (lnD (c0, c1)), .val (.int c0), .val (.int c1), .no] = .ret (.rt (.tuple [.int 1, .int (invq q c0 * c1 % q)])) := by
      rw [← ef, r_for]
      have : dRng1 (dCons (dVar 0) dNil) [.val (.int q), .val (lnD (c0, c1)), .val (.int c0), .val (.int c1), .no] = .ret (rng 0 q.toNat) := if_pos (by omega)
      rw [this]
      rfl
    rw [r_seq, hr]
    rfl
structure Tb where
  A : Int
  B : Int
  C : Int
  E : Int
def tbl (q e f : Int) (x : Qt) : Tb := ⟨hf q (x.a + x.c * e - x.d * f), hf q (x.c * f + x.d * e - x.b), hf q (x.b + x.c * f + x.d * e), hf q (x.a - x.c * e + x.d * f)⟩
def Tb.D (t : Tb) : Fs.D := q4 t.A t.B t.C t.E
theorem tbl_D (q e f : Int) (x : Qt) : (tbl q e f x).D = tb q e f x.a x.b x.c x.d := rfl
theorem ok_Qd {x : Qt} (hb : Bq 600 x) (hx : x.Ok) : Qd x.a x.b x.c x.d := ⟨hb.a, hb.b, hb.c, hb.d, hx.b, hx.c, hx.d⟩
theorem ev_tbl {q e f : Int} {x : Qt} (M : Mk q e f) (hb : Bq 600 x) (hx : x.Ok) : m_table_of [.int q, x.D] = .ret (tbl q e f x).D := ev_table M (ok_Qd hb hx)
theorem ev_tblby {q e f : Int} {x : Qt} (M : Mk q e f) (hb : Bq 600 x) (hx : x.Ok) : m_table_by [.int q, x.D] = .ret (tbl q e f x).D := by
  haveI := hb.a
  haveI := hb.b
  haveI := hb.c
  haveI := hb.d
  haveI := M.be
  haveI := M.bf
  have hq : 0 < q := by have := M.g; omega
  show m_table_by [.int q, q4 x.a x.b x.c x.d] = _
  simp [m_table_by, S_table_by, M.m, vMul_a, ev_half, hq, tbl, Tb.D]
theorem pr_of {x y : Qt} (hx : x.Ok) (hy : y.Ok) : Fw.Pr x.a x.b x.c x.d y.a y.b y.c y.d (mul x y).a (mul x y).b (mul x y).c (mul x y).d := by
  obtain ⟨h1, h2, h3, h4⟩ := pr_mul hx hy
  exact ⟨h1, h2, h3, h4⟩
theorem tbl_rng {q e f : Int} (M : Mk q e f) (x : Qt) : (0 ≤ (tbl q e f x).A ∧ (tbl q e f x).A < q) ∧ (0 ≤ (tbl q e f x).B ∧ (tbl q e f x).B < q) ∧ (0 ≤ (tbl q e f x).C ∧ (tbl q e f x).C < q) ∧ (0 ≤ (tbl q e f x).E ∧ (tbl q e f x).E < q) :=
  ⟨hf_rng M.g M.o, hf_rng M.g M.o, hf_rng M.g M.o, hf_rng M.g M.o⟩
theorem tbl_cg {q e f : Int} {x y : Qt} (h : mdQ q x = mdQ q y) : tbl q e f x = tbl q e f y := by
  obtain ⟨h1, h2, h3, h4⟩ := md_parts h
  have := tb_cg (m := q) (e := e) (f := f) h1 h2 h3 h4
  unfold tbl
  simp [tb] at this
  obtain ⟨k1, k2, k3, k4⟩ := this
  rw [k1, k2, k3, k4]
theorem tbl_smul {q e f c : Int} (M : Mk q e f) (x : Qt) : (tbl q e f (smul c x)).A % q = c * (tbl q e f x).A % q ∧ (tbl q e f (smul c x)).B % q = c * (tbl q e f x).B % q ∧ (tbl q e f (smul c x)).C % q = c * (tbl q e f x).C % q ∧ (tbl q e f (smul c x)).E % q = c * (tbl q e f x).E % q := by
  have g := M.g
  have o := M.o
  have key : ∀ n m : Int, n = c * m → hf q n % q = c * hf q m % q := fun n m h => can2 o (by
    rw [hf_two g o, show 2 * (c * hf q m) = c * (2 * hf q m) by rw [← Int.mul_assoc, Int.mul_comm 2 c, Int.mul_assoc], cg_mul (x := c) (y := c) rfl (hf_two (n := m) g o), h])
  refine ⟨key _ _ ?_, key _ _ ?_, key _ _ ?_, key _ _ ?_⟩ <;> simp only [smul] <;> clear key M g o <;> grind
theorem tbl_one {q e f : Int} (M : Mk q e f) : tbl q e f Qt.one = ⟨1, 0, 0, 1⟩ := by
  have g := M.g
  have o := M.o
  have h1 : hf q 2 = 1 := by
    have h2 := hf_two (n := 2) g o
    have hr := hf_rng (n := 2) g o
    have := can2 (y := 1) o h2
    rwa [Int.emod_eq_of_lt hr.1 hr.2, Int.emod_eq_of_lt (by omega) (by omega)] at this
  have h0 : hf q 0 = 0 := by unfold hf; simp
  unfold tbl Qt.one
  simp only [Int.zero_mul, Int.add_zero, Int.sub_zero, Int.sub_self, h1, h0]
noncomputable def led (q e f : Int) (x : Qt) (l : Int × Int) : Int × Int := ll q ((tbl q e f x).A * l.1 + (tbl q e f x).B * l.2) ((tbl q e f x).C * l.1 + (tbl q e f x).E * l.2)
theorem led_line {q e f : Int} {x : Qt} {l : Int × Int} (hq : Five q) : IsL q (led q e f x l) := ll_line hq
theorem ev_isl {q : Int} {l : Int × Int} (hl : IsL q l) : m_need_line [.int q, lnD l] = .ret .none := by
  have h : m_is_line_of [.int q, lnD l] = .ret (.bool true) := by
    obtain ⟨s, t⟩ := l
    have e : ∀ s t u v : Int, vEq (lnD (s, t)) (.tuple [.int u, .int v]) = .ret (.bool (s == u && (t == v && true))) := fun s t u v => by
      rw [vEq_eqv rfl rfl rfl rfl]
      simp only [PyData.eqv, PyData.eqvAll]
    rcases hl with h | ⟨h1, h2, h3⟩
    · cases h
      simp [m_is_line_of, S_is_line_of, ev_is_number, e]
    · simp only at h1 h2 h3
      subst h1
      simp [m_is_line_of, S_is_line_of, ev_is_number, e, pLe, pLt, h2, h3]
  have e : m_need_line [.int q, lnD l] = (S_need_line [.val (.int q), .val (lnD l)]).bind outD := rfl
  rw [e]
  unfold S_need_line
  rw [r_ifS, r_notT, r_tru, call2 m_is_line_of (d := .int q) (d2 := lnD l) rfl rfl, h]
  rfl
theorem isl_bd {q : Int} {l : Int × Int} (hq : Five q) (hl : IsL q l) : Bd 10 l.1 ∧ Bd 10 l.2 := by
  have := hq.le
  rcases hl with rfl | ⟨h1, h2, h3⟩
  · exact ⟨⟨by decide⟩, ⟨by decide⟩⟩
  · exact ⟨⟨by omega⟩, ⟨by omega⟩⟩
end Fw

set_option linter.all false
set_option autoImplicit false
set_option maxRecDepth 100000
set_option exponentiation.threshold 2000
set_option maxHeartbeats 2000000
namespace Fw
open PySem Fs Fq Qt
/-! ## tables multiplied, their lines: plain mathematics -/
theorem tbl_mul {q e f : Int} {x y : Qt} (M : Mk q e f) (hx : x.Ok) (hy : y.Ok) : let s := tbl q e f x; let t := tbl q e f y; let r := tbl q e f (mul x y)
    (s.A * t.A + s.B * t.C) % q = r.A ∧ (s.A * t.B + s.B * t.E) % q = r.B ∧ (s.C * t.A + s.E * t.C) % q = r.C ∧ (s.C * t.B + s.E * t.E) % q = r.E := by
  intro s t r
  have g := M.g
  have o := M.o
  have hs := M.s
  obtain ⟨p1, p2, p3, p4⟩ := pr_of hx hy
  have t' := fun (n : Int) => hf_two (n := n) g o
  refine ⟨then_one o (t' _) (t' _) (t' _) (t' _) g ?_, then_one o (t' _) (t' _) (t' _) (t' _) g ?_, then_one o (t' _) (t' _) (t' _) (t' _) g ?_, then_one o (t' _) (t' _) (t' _) (t' _) g ?_⟩
  · refine cg_ef hs (K := x.c * y.c + x.d * y.d) ?_
    rw [show 2 * ((mul x y).a + (mul x y).c * e - (mul x y).d * f) = (2 * (mul x y).a) + (2 * (mul x y).c) * e - (2 * (mul x y).d) * f by clear p1 p2 p3 p4 hs g o t'; grind, ← p1, ← p3, ← p4]
    clear p1 p2 p3 p4 hs g o t' M; grind
  · refine cg_ef hs (K := x.c * y.d - x.d * y.c) ?_
    rw [show 2 * ((mul x y).c * f + (mul x y).d * e - (mul x y).b) = (2 * (mul x y).c) * f + (2 * (mul x y).d) * e - (2 * (mul x y).b) by clear p1 p2 p3 p4 hs g o t'; grind, ← p2, ← p3, ← p4]
    clear p1 p2 p3 p4 hs g o t' M; grind
  · refine cg_ef hs (K := x.d * y.c - x.c * y.d) ?_
    rw [show 2 * ((mul x y).b + (mul x y).c * f + (mul x y).d * e) = (2 * (mul x y).b) + (2 * (mul x y).c) * f + (2 * (mul x y).d) * e by clear p1 p2 p3 p4 hs g o t'; grind, ← p2, ← p3, ← p4]
    clear p1 p2 p3 p4 hs g o t' M; grind
  · refine cg_ef hs (K := x.c * y.c + x.d * y.d) ?_
    rw [show 2 * ((mul x y).a - (mul x y).c * e + (mul x y).d * f) = (2 * (mul x y).a) - (2 * (mul x y).c) * e + (2 * (mul x y).d) * f by clear p1 p2 p3 p4 hs g o t'; grind, ← p1, ← p3, ← p4]
    clear p1 p2 p3 p4 hs g o t' M; grind
theorem tbl_det {q e f : Int} (M : Mk q e f) (x : Qt) : 4 * ((tbl q e f x).A * (tbl q e f x).E - (tbl q e f x).B * (tbl q e f x).C) % q = nsq x % q := by
  have g := M.g
  have o := M.o
  have t' := fun (n : Int) => hf_two (n := n) g o
  have h := cg_sub (cg_mul (t' (x.a + x.c * e - x.d * f)) (t' (x.a - x.c * e + x.d * f))) (cg_mul (t' (x.c * f + x.d * e - x.b)) (t' (x.b + x.c * f + x.d * e)))
  have e1 : 4 * ((tbl q e f x).A * (tbl q e f x).E - (tbl q e f x).B * (tbl q e f x).C) = 2 * hf q (x.a + x.c * e - x.d * f) * (2 * hf q (x.a - x.c * e + x.d * f)) - 2 * hf q (x.c * f + x.d * e - x.b) * (2 * hf q (x.b + x.c * f + x.d * e)) := by
    show 4 * (hf q (x.a + x.c * e - x.d * f) * hf q (x.a - x.c * e + x.d * f) - hf q (x.c * f + x.d * e - x.b) * hf q (x.b + x.c * f + x.d * e)) = _
    clear h t' g o M; grind
  rw [e1, h]
  refine cg_ef M.s (K := -(x.c * x.c + x.d * x.d)) ?_
  unfold nsq
  clear h e1 t' g o M; grind
def Zq (q : Int) (x : Qt) : Prop := x.a % q = 0 ∧ x.b % q = 0 ∧ x.c % q = 0 ∧ x.d % q = 0
theorem hf_zero (q : Int) : hf q 0 = 0 := by unfold hf; simp
theorem tbl_zero {q e f : Int} {x : Qt} (M : Mk q e f) (h1 : (tbl q e f x).A = 0) (h2 : (tbl q e f x).B = 0) (h3 : (tbl q e f x).C = 0) (h4 : (tbl q e f x).E = 0) : Zq q x := by
  obtain ⟨c1, c2, c3, c4⟩ := low_cg (a := x.a) (b := x.b) (c := x.c) (d := x.d) M
  have h1 : hf q (x.a + x.c * e - x.d * f) = 0 := h1
  have h2 : hf q (x.c * f + x.d * e - x.b) = 0 := h2
  have h3 : hf q (x.b + x.c * f + x.d * e) = 0 := h3
  have h4 : hf q (x.a - x.c * e + x.d * f) = 0 := h4
  rw [h1, h4] at c1
  rw [h2, h3] at c2
  rw [h1, h2, h3, h4] at c3 c4
  simp [hf_zero] at c1 c2 c3 c4
  exact ⟨c1.symm, c2.symm, c3.symm, c4.symm⟩
theorem zq_tbl {q e f : Int} {x : Qt} (z : Zq q x) : tbl q e f x = ⟨0, 0, 0, 0⟩ := by
  have h : mdQ q x = mdQ q Qt.zero := md_of (z.1.trans (Int.zero_emod q).symm) (z.2.1.trans (Int.zero_emod q).symm) (z.2.2.1.trans (Int.zero_emod q).symm) (z.2.2.2.trans (Int.zero_emod q).symm)
  rw [tbl_cg h]
  unfold tbl Qt.zero
  simp [hf_zero]
theorem zq_dv {q : Int} {x : Qt} (hq : Five q) (hx : x.Ok) : Zq q x ↔ Dv q x := by
  constructor
  · rintro ⟨h1, h2, h3, h4⟩
    obtain ⟨j, hj⟩ : ∃ j, q = 2 * j + 1 := ⟨q / 2, by have := five_odd hq; omega⟩
    have d1 := Int.mul_ediv_add_emod x.a q
    have d2 := Int.mul_ediv_add_emod x.b q
    have d3 := Int.mul_ediv_add_emod x.c q
    have d4 := Int.mul_ediv_add_emod x.d q
    rw [h1] at d1
    rw [h2] at d2
    rw [h3] at d3
    rw [h4] at d4
    have par2 : ∀ u v : Int, (q * u - q * v) % 2 = 0 → (u - v) % 2 = 0 := fun u v h => by
      have e : q * u - q * v = 2 * (j * (u - v)) + (u - v) := by rw [hj]; grind
      rw [e] at h
      omega
    have ob := hx.b
    have oc := hx.c
    have od := hx.d
    refine ⟨⟨x.a / q, x.b / q, x.c / q, x.d / q⟩, ⟨par2 _ _ ?_, par2 _ _ ?_, par2 _ _ ?_⟩, ?_⟩
    · show (q * (x.b / q) - q * (x.a / q)) % 2 = 0
      rw [show q * (x.b / q) = x.b by omega, show q * (x.a / q) = x.a by omega]; exact ob
    · show (q * (x.c / q) - q * (x.a / q)) % 2 = 0
      rw [show q * (x.c / q) = x.c by omega, show q * (x.a / q) = x.a by omega]; exact oc
    · show (q * (x.d / q) - q * (x.a / q)) % 2 = 0
      rw [show q * (x.d / q) = x.d by omega, show q * (x.a / q) = x.a by omega]; exact od
    · obtain ⟨a, b, c, d⟩ := x
      simp only [smul] at *
      rw [show q * (a / q) = a by omega, show q * (b / q) = b by omega, show q * (c / q) = c by omega, show q * (d / q) = d by omega]
  · rintro ⟨y, _, rfl⟩
    exact ⟨Int.mul_emod_right _ _, Int.mul_emod_right _ _, Int.mul_emod_right _ _, Int.mul_emod_right _ _⟩
structure R1 (q : Int) (t : Tb) (l : Int × Int) (m n : Int) : Prop where
  a : t.A % q = m * l.1 % q
  b : t.B % q = n * l.1 % q
  c : t.C % q = m * l.2 % q
  e : t.E % q = n * l.2 % q
  z : m % q ≠ 0 ∨ n % q ≠ 0
structure Rg (q : Int) (t : Tb) : Prop where
  a : 0 ≤ t.A ∧ t.A < q
  b : 0 ≤ t.B ∧ t.B < q
  c : 0 ≤ t.C ∧ t.C < q
  e : 0 ≤ t.E ∧ t.E < q
theorem rg_of {q e f : Int} (M : Mk q e f) (x : Qt) : Rg q (tbl q e f x) := ⟨(tbl_rng M x).1, (tbl_rng M x).2.1, (tbl_rng M x).2.2.1, (tbl_rng M x).2.2.2⟩
noncomputable def lineT (q : Int) (t : Tb) : Int × Int := if t.A = 0 ∧ t.C = 0 then ll q t.B t.E else ll q t.A t.C
theorem lineT_isl {q : Int} {t : Tb} (hq : Five q) : IsL q (lineT q t) := by unfold lineT; split <;> exact ll_line hq
theorem rg0 {q a : Int} (h : 0 ≤ a ∧ a < q) (z : a % q = 0) : a = 0 := by rwa [Int.emod_eq_of_lt h.1 h.2] at z
theorem ll_self {q : Int} {l : Int × Int} (hq : Five q) (hl : IsL q l) : ll q l.1 l.2 = l := by
  obtain ⟨a, b⟩ := l
  rcases hl with h | ⟨h1, h2, h3⟩
  · cases h
    unfold ll
    rw [if_pos (Int.zero_emod q)]
  · simp only at h1 h2 h3
    subst h1
    have o := five_one hq
    unfold ll
    rw [if_neg (by rw [o]; decide)]
    have i := invq_spec (n := 1) hq (by rw [o]; decide)
    rw [Int.mul_one] at i
    have := cg_mul (q := q) (x := invq q 1) (y := 1) (z := b) (w := b) (by rw [i, o]) rfl
    rw [Int.one_mul, Int.emod_eq_of_lt h2 h3] at this
    show (1, invq q 1 * b % q) = (1, b)
    rw [this]
theorem isl_ne {q : Int} {l : Int × Int} (hq : Five q) (hl : IsL q l) : l.1 % q ≠ 0 ∨ (l.1 % q = 0 ∧ l.2 % q ≠ 0) := by
  have o := five_one hq
  rcases hl with h | ⟨h1, h2, h3⟩
  · cases h
    exact .inr ⟨Int.zero_emod q, by rw [o]; decide⟩
  · exact .inl (by rw [h1, o]; decide)
theorem r1_line {q m n : Int} {t : Tb} {l : Int × Int} (hq : Five q) (hl : IsL q l) (g : Rg q t) (R : R1 q t l m n) : lineT q t = l := by
  obtain ⟨a, b, c, e, z⟩ := R
  unfold lineT
  by_cases hm : m % q = 0
  · have za : m * l.1 % q = 0 := by rw [Int.mul_emod, hm, Int.zero_mul, Int.zero_emod]
    have zc : m * l.2 % q = 0 := by rw [Int.mul_emod, hm, Int.zero_mul, Int.zero_emod]
    rw [if_pos ⟨rg0 g.a (a.trans za), rg0 g.c (c.trans zc)⟩, ll_cg hq b e, ll_smul hq (z.resolve_left fun h => h hm), ll_self hq hl]
  · rw [if_neg, ll_cg hq a c, ll_smul hq hm, ll_self hq hl]
    rintro ⟨ha, hc⟩
    rw [ha, Int.zero_emod] at a
    rw [hc, Int.zero_emod] at c
    rcases isl_ne hq hl with h | ⟨_, h⟩
    · exact h ((zero_iff hq hm).mp a.symm)
    · exact h ((zero_iff hq hm).mp c.symm)
theorem inv_back {q k a l : Int} (hq : Five q) (hk : k % q ≠ 0) (h : l % q = k * a % q) : a % q = invq q k * l % q := by
  have i := invq_spec hq hk
  have h2 := cg_mul (x := invq q k) (y := invq q k) rfl h
  rw [h2, ← Int.mul_assoc]
  have := cg_mul (q := q) (x := invq q k * k) (y := 1) (z := a) (w := a) (by rw [i, five_one hq]) rfl
  rw [this, Int.one_mul]
theorem inv_ne {q c : Int} (hq : Five q) (hc : c % q ≠ 0) : invq q c % q ≠ 0 := fun z => by
  have i := invq_spec hq hc
  rw [Int.mul_emod, z, Int.zero_mul, Int.zero_emod] at i
  cases i
theorem line_r1 {q : Int} {t : Tb} (hq : Five q) (g : Rg q t) (hd : (t.A * t.E - t.B * t.C) % q = 0) (hz : ¬ (t.A = 0 ∧ t.B = 0 ∧ t.C = 0 ∧ t.E = 0)) : ∃ m n, R1 q t (lineT q t) m n := by
  have nz : ∀ {a : Int}, 0 ≤ a ∧ a < q → a ≠ 0 → a % q ≠ 0 := fun h n z => n (rg0 h z)
  unfold lineT
  by_cases h : t.A = 0 ∧ t.C = 0
  · rw [if_pos h]
    have hh : t.B % q ≠ 0 ∨ t.E % q ≠ 0 := by
      by_cases hb : t.B = 0
      · exact .inr (nz g.e fun he => hz ⟨h.1, hb, h.2, he⟩)
      · exact .inl (nz g.b hb)
    obtain ⟨k, hk, e1, e2⟩ := ll_form hq hh
    exact ⟨0, invq q k, by rw [h.1, Int.zero_mul], inv_back hq hk e1, by rw [h.2, Int.zero_mul], inv_back hq hk e2, .inr (inv_ne hq hk)⟩
  · rw [if_neg h]
    have hh : t.A % q ≠ 0 ∨ t.C % q ≠ 0 := by
      by_cases ha : t.A = 0
      · exact .inr (nz g.c fun hc => h ⟨ha, hc⟩)
      · exact .inl (nz g.a ha)
    obtain ⟨k, hk, e1, e2⟩ := ll_form hq hh
    have hl := ll_line (c0 := t.A) (c1 := t.C) hq
    generalize ll q t.A t.C = l at *
    have a1 := inv_back hq hk e1
    have a2 := inv_back hq hk e2
    have hk' := inv_ne hq hk
    generalize invq q k = j at *
    have hd' : t.A * t.E % q = t.B * t.C % q := Int.emod_eq_emod_iff_emod_sub_eq_zero.mpr hd
    have h3 : j * (l.1 * t.E) % q = j * (t.B * l.2) % q := by
      have u1 := cg_mul a1 (rfl : t.E % q = t.E % q)
      have u2 := cg_mul (rfl : t.B % q = t.B % q) a2
      rw [show j * (l.1 * t.E) = j * l.1 * t.E by rw [Int.mul_assoc], ← u1, hd', u2]
      congr 1
      clear u1 u2 hd' a1 a2 e1 e2; grind
    have h4 : (l.1 * t.E) % q = (t.B * l.2) % q := by
      have := (zero_iff (n := l.1 * t.E - t.B * l.2) hq hk').mp (by
        rw [Int.mul_sub, Int.sub_emod, h3, Int.sub_self, Int.zero_emod])
      exact Int.emod_eq_emod_iff_emod_sub_eq_zero.mpr this
    have o := five_one hq
    rcases hl with hl | ⟨hl, _⟩
    · subst hl
      refine ⟨j, t.E, a1, ?_, a2, by rw [Int.mul_one], .inl hk'⟩
      simp only [Int.zero_mul, Int.mul_one, Int.mul_zero] at h4 ⊢
      rw [← h4]
    · rw [hl] at h4 a1
      refine ⟨j, t.B, by rw [hl]; exact a1, by rw [hl, Int.mul_one], a2, ?_, .inl hk'⟩
      rw [Int.one_mul] at h4
      exact h4
end Fw

set_option linter.all false
set_option autoImplicit false
set_option maxRecDepth 100000
set_option exponentiation.threshold 2000
set_option maxHeartbeats 2000000
namespace Fw
open PySem Fs Fq Qt
/-! ## the law's own tables, lines, contents -/
theorem rng04 : rng 0 4 = [.int 0, .int 1, .int 2, .int 3] := rfl
@[simp] theorem r_rng1 (fs : DEs) (env : Fs.Env) : dRng1 fs env = (fs env).bind fun ds => match ds with
  | [.int j] => if -4611686018427387904 ≤ j ∧ j < 4611686018427387904 then .ret (rng 0 j.toNat) else .bad
  | _ => .bad := by unfold dRng1; rfl
theorem lm3 : m_Lmarks [.int 3] = .ret (.tuple [.int 1, .int 1]) := by rfl
theorem lm5 : m_Lmarks [.int 5] = .ret (.tuple [.int 0, .int 2]) := by rfl
theorem lm7 : m_Lmarks [.int 7] = .ret (.tuple [.int 2, .int 3]) := by rfl
theorem lm11 : m_Lmarks [.int 11] = .ret (.tuple [.int 1, .int 3]) := by rfl
theorem lm13 : m_Lmarks [.int 13] = .ret (.tuple [.int 0, .int 5]) := by rfl
theorem two_of {a b c d : Int} (h : (Cm.ret (.tuple [.int a, .int b]) : Cm D) = .ret (.tuple [.int c, .int d])) : a = c ∧ b = d := by
  simpa using h
theorem lmarks {q e f : Int} (hq : Five q) (M : Mk q e f) : m_Lmarks [.int q] = .ret (.tuple [.int e, .int f]) := by
  have m := M.m
  rcases hq with rfl | rfl | rfl | rfl | rfl
  · obtain ⟨rfl, rfl⟩ := two_of (marks3.symm.trans m); exact lm3
  · obtain ⟨rfl, rfl⟩ := two_of (marks5.symm.trans m); exact lm5
  · obtain ⟨rfl, rfl⟩ := two_of (marks7.symm.trans m); exact lm7
  · obtain ⟨rfl, rfl⟩ := two_of (marks11.symm.trans m); exact lm11
  · obtain ⟨rfl, rfl⟩ := two_of (marks13.symm.trans m); exact lm13
theorem ev_Lhalf {q n : Int} (hq : Five q) [Bd 2000 n] : m_Lhalf [.int q, .int n] = .ret (.int (hf q n)) := by
  have q0 := five_pos hq
  obtain ⟨q1, q2⟩ := hq.le
  have o := five_odd hq
  haveI : Bd 10 ((q + 1) / 2) := ⟨by omega⟩
  have e : n * ((q + 1) / 2) % q = hf q n := by
    have hr := hf_rng (n := n) q1 o
    rw [← Int.emod_eq_of_lt hr.1 hr.2]
    refine can2 o ?_
    rw [hf_two q1 o]
    obtain ⟨j, hj⟩ : ∃ j, q = 2 * j + 1 := ⟨q / 2, by omega⟩
    have h2 : (q + 1) / 2 = j + 1 := by omega
    rw [h2, show 2 * (n * (j + 1)) = n + q * n by rw [hj]; grind, Int.add_mul_emod_self_left]
  simp [m_Lhalf, S_Lhalf, vMul_a, q0, e]
theorem ev_Ltable {q e f : Int} {x : Qt} (hq : Five q) (M : Mk q e f) (hb : Bq 600 x) : m_Ltable [.int q, x.D] = .ret (tbl q e f x).D := by
  haveI := hb.a
  haveI := hb.b
  haveI := hb.c
  haveI := hb.d
  haveI := M.be
  haveI := M.bf
  have lm := lmarks hq M
  have h1 : ∀ n, Bd 2000 n → m_Lhalf [.int q, .int n] = .ret (.int (hf q n)) := fun n _ => ev_Lhalf hq
  haveI : Bd 2 (0 : Int) := ⟨by decide⟩
  haveI : Bd 2 (1 : Int) := ⟨by decide⟩
  haveI : Bd 2 (-1 : Int) := ⟨by decide⟩
  have b1 : Bd 2000 (x.a + x.c * e - x.d * f) := Bd.mono (k := 600 + (600 + 10) + 1 + (600 + 10) + 1) inferInstance (by decide)
  have b2 : Bd 2000 (x.c * f + x.d * e - x.b) := Bd.mono (k := 600 + 10 + (600 + 10) + 1 + 600 + 1) inferInstance (by decide)
  have b3 : Bd 2000 (x.b + x.c * f + x.d * e) := Bd.mono (k := 600 + (600 + 10) + 1 + (600 + 10) + 1) inferInstance (by decide)
  have b4 : Bd 2000 (x.a - x.c * e + x.d * f) := Bd.mono (k := 600 + (600 + 10) + 1 + (600 + 10) + 1) inferInstance (by decide)
  have e1 := h1 _ b1
  have e2 := h1 _ b2
  have e3 := h1 _ b3
  have e4 := h1 _ b4
  show m_Ltable [.int q, q4 x.a x.b x.c x.d] = _
  have a1 : x.a + (x.c * e + x.d * -f) = x.a + x.c * e - x.d * f := by grind
  have a2 : -x.b + (x.c * f + x.d * e) = x.c * f + x.d * e - x.b := by grind
  have a3 : x.b + (x.c * f + x.d * e) = x.b + x.c * f + x.d * e := by grind
  have a4 : x.a + (x.c * -e + x.d * f) = x.a - x.c * e + x.d * f := by grind
  simp [m_Ltable, S_Ltable, lm, rng04, zip2, vMul_a, a1, a2, a3, a4, e1, e2, e3, e4]
  rfl
theorem ev_Lcol {q c0 c1 : Int} (hq : Five q) [Bd 600 c0] [Bd 600 c1] : m_Lline_of_column [.int q, .int c0, .int c1] = .ret (lnD (ll q c0 c1)) := by
  have q0 := five_pos hq
  obtain ⟨q1, q2⟩ := hq.le
  have e : m_Lline_of_column [.int q, .int c0, .int c1] = (S_Lline_of_column [.val (.int q), .val (.int c0), .val (.int c1), .no, .no]).bind outD := rfl
  rw [e]
  unfold S_Lline_of_column ll
  by_cases z : c0 % q = 0
  · rw [if_pos z]
    simp [q0, z]
  · rw [if_neg z]
    obtain ⟨n, n1, n2, n3⟩ := inv_ex hq z
    let p : D → Bool := fun d => match d with | .int n => n * c0 % q == 1 | _ => false
    have s2 : dIfS (dTru (dOp vEq (dOp vMod (dCall cInt (dCons (dPeek 1) dNil)) (dPeek 0)) (dCst (.int 0)))) (dRet (dTupF (dCons (dCst (.int 0)) (dCons (dCst (.int 1)) dNil)))) dSkip [.val (.int q), .val (.int c0), .val (.int c1), .no, .no] = .ret (.nx [.val (.int q), .val (.int c0), .val (.int c1), .no, .no]) := by simp [q0, z]
    have h := lcGo_filter (g := gN 4) (t := dTru (dOp vEq (dOp vMod (dCall cInt (dCons (dOp vMul (dPeek 4) (dPeek 1)) dNil)) (dPeek 0)) (dCst (.int 1)))) (f := dVar 4) (env := [.val (.int q), .val (.int c0), .val (.int c1), .no, .no]) p (items := rng 1 (q.toNat - 1)) (fun d hd => by
      obtain ⟨j, hj, rfl⟩ := rng_mem.mp hd
      generalize hn : (1 : Int) + (j : Int) = m
      haveI : Bd 10 m := ⟨by omega⟩
      exact ⟨[.val (.int q), .val (.int c0), .val (.int c1), .no, .val (.int m)], rfl, by simp [vMul_a, q0, p], rfl, rfl⟩)
    have hm : PyData.int n ∈ (rng 1 (q.toNat - 1)).filter p := List.mem_filter.mpr ⟨rng_mem.mpr ⟨n.toNat - 1, by omega, by congr 1; omega⟩, by simp [p, n3]⟩
    cases hF : (rng 1 (q.toNat - 1)).filter p with
    | nil => rw [hF] at hm; cases hm
    | cons d ds =>
      rw [hF] at h
      have hd : d ∈ (rng 1 (q.toNat - 1)).filter p := by rw [hF]; exact List.mem_cons_self
      obtain ⟨hd1, hd2⟩ := List.mem_filter.mp hd
      obtain ⟨j, hj, rfl⟩ := rng_mem.mp hd1
      generalize hn : (1 : Int) + (j : Int) = m at *
      haveI : Bd 10 m := ⟨by omega⟩
      have hp : m * c0 % q = 1 := by simpa [p] using hd2
      have s3 : dSet 3 (dOp vIx (dOnlyL (dLc (dRng2 (dCons (dCst (.int 1)) (dCons (dVar 0) dNil))) (gN 4) (dTru (dOp vEq (dOp vMod (dCall cInt (dCons (dOp vMul (dPeek 4) (dPeek 1)) dNil)) (dPeek 0)) (dCst (.int 1)))) (dVar 4) [4])) (dCst (.int 0))) [.val (.int q), .val (.int c0), .val (.int c1), .no, .no] = .ret (.nx [.val (.int q), .val (.int c0), .val (.int c1), .val (.int m), .no]) := by
        refine set_nx (d := .int m) ?_
        refine (op2 (d1 := .list (.int m :: ds)) (d2 := .int 0) ?_ rfl).trans (by rw [r_ix_l, at0])
        refine lc_run (items := rng 1 (q.toNat - 1)) ?_ ?_ h
        · have : dRng2 (dCons (dCst (.int 1)) (dCons (dVar 0) dNil)) [.val (.int q), .val (.int c0), .val (.int c1), .no, .no] = .ret (rng 1 (q - 1).toNat) := if_pos (by omega)
          rw [this]
          congr 2
          omega
        · simp [rng]; omega
      rw [r_seq, s2, Cm.ret_bind]
      simp only []
      rw [r_seq, s3, Cm.ret_bind]
      simp only []
      have i := inv_cg hp (invq_spec hq z) rfl
      have eq : m * c1 % q = invq q c0 * c1 % q := cg_mul i rfl
      simp [vMul_a, q0, eq]
theorem ne_pair (a b : Int) : vNe (.tuple [.int a, .int b]) (.tuple [.int 0, .int 0]) = .ret (.bool (!decide (a = 0 ∧ b = 0))) := by
  rw [vNe_eqv rfl rfl rfl rfl]
  simp only [PyData.eqv, PyData.eqvAll]
  by_cases h1 : a = 0 <;> by_cases h2 : b = 0 <;> simp [h1, h2]
theorem ev_Lline {q e f : Int} {x : Qt} (hq : Five q) (M : Mk q e f) (hb : Bq 600 x) : m_Lline [.int q, x.D] = .ret (lnD (lineT q (tbl q e f x))) := by
  have t := ev_Ltable hq M hb
  obtain ⟨⟨a1, a2⟩, ⟨b1, b2⟩, ⟨c1, c2⟩, d1, d2⟩ := tbl_rng M x
  have := hq.le
  generalize hz : x.D = z at *
  generalize tbl q e f x = w at *
  haveI : Bd 600 w.A := Bd.mono (k := 10) ⟨by omega⟩ (by decide)
  haveI : Bd 600 w.B := Bd.mono (k := 10) ⟨by omega⟩ (by decide)
  haveI : Bd 600 w.C := Bd.mono (k := 10) ⟨by omega⟩ (by decide)
  haveI : Bd 600 w.E := Bd.mono (k := 10) ⟨by omega⟩ (by decide)
  have h1 := ev_Lcol (c0 := w.A) (c1 := w.C) hq
  have h2 := ev_Lcol (c0 := w.B) (c1 := w.E) hq
  simp [Tb.D] at t
  unfold lineT
  by_cases h : w.A = 0 ∧ w.C = 0
  · rw [if_pos h]
    obtain ⟨z1, z2⟩ := h
    rw [z1, z2] at t
    simp [m_Lline, S_Lline, t, ne_pair, h2]
  · rw [if_neg h]
    have h' : w.A = 0 → ¬w.C = 0 := fun a b => h ⟨a, b⟩
    simp only [m_Lline, S_Lline, r_fnD, r_sEnv]
    simp [t, ne_pair, h1]
    exact fun a b => absurd b (h' a)
theorem ev_lineby {q e f : Int} {x : Qt} (hq : Five q) (M : Mk q e f) (hb : Bq 600 x) (hx : x.Ok) : m_line_by [.int q, x.D] = .ret (lnD (lineT q (tbl q e f x))) := by
  have t := ev_tblby M hb hx
  obtain ⟨⟨a1, a2⟩, ⟨b1, b2⟩, ⟨c1, c2⟩, d1, d2⟩ := tbl_rng M x
  have := hq.le
  generalize hz : x.D = z at *
  generalize tbl q e f x = w at *
  haveI : Bd 600 w.A := Bd.mono (k := 10) ⟨by omega⟩ (by decide)
  haveI : Bd 600 w.B := Bd.mono (k := 10) ⟨by omega⟩ (by decide)
  have h1 := ev_ll (c0 := w.A) (c1 := w.C) hq
  have h2 := ev_ll (c0 := w.B) (c1 := w.E) hq
  simp [Tb.D] at t
  simp only [lnD] at h1 h2
  unfold lineT
  by_cases h : w.A = 0 ∧ w.C = 0
  · rw [if_pos h]
    obtain ⟨z1, z2⟩ := h
    rw [z1, z2] at t
    simp [m_line_by, S_line_by, t, ne_pair, h2]
  · rw [if_neg h]
    have h' : w.A = 0 → ¬w.C = 0 := fun a b => h ⟨a, b⟩
    simp only [m_line_by, S_line_by, r_fnD, r_sEnv]
    simp [t, ne_pair, h1]
    rw [if_pos (Classical.not_and_iff_not_or_not.mp h)]
    simp [h1]
end Fw

set_option linter.all false
set_option autoImplicit false
set_option maxRecDepth 100000
set_option exponentiation.threshold 2000
set_option maxHeartbeats 2000000
namespace Fw
open PySem Fs Fq Qt
/-! ## the law's own content; has_line, line_of, led_line -/
theorem gcd_go : ∀ (n : Nat) (a b : Nat), b < n → whileGo (dTru (dOp vNe (dPeek 1) (dCst (.int 0)))) (dPar 0 1 (dVar 1) (dOp vMod (dCall cInt (dCons (dPeek 0) dNil)) (dPeek 1))) n [.val (.int a), .val (.int b)] = .ret (.nx [.val (.int (Nat.gcd a b : Nat)), .val (.int 0)])
  | 0, a, b, h => by omega
  | n + 1, a, b, h => by
    by_cases hb : b = 0
    · subst hb
      rw [Nat.gcd_zero_right]
      have t : (dTru (dOp vNe (dPeek 1) (dCst (.int 0)))) [.val (.int a), .val (.int ((0 : Nat) : Int))] = .ret false := by simp
      unfold whileGo
      rw [t]
      rfl
    · have t : (dTru (dOp vNe (dPeek 1) (dCst (.int 0)))) [.val (.int a), .val (.int (b : Int))] = .ret true := by simp; omega
      have s : dPar 0 1 (dVar 1) (dOp vMod (dCall cInt (dCons (dPeek 0) dNil)) (dPeek 1)) [.val (.int a), .val (.int (b : Int))] = .ret (.nx [.val (.int (b : Int)), .val (.int ((a % b : Nat) : Int))]) := by
        simp [show 0 < b by omega]
      have lt : a % b < b := Nat.mod_lt _ (by omega)
      have ih := gcd_go n b (a % b) (by omega)
      rw [show Nat.gcd b (a % b) = Nat.gcd a b by rw [Nat.gcd_comm a b, Nat.gcd_rec b a, Nat.gcd_comm]] at ih
      unfold whileGo
      rw [t, Cm.ret_bind, if_pos rfl, s]
      exact ih
theorem ev_Lcommon {a b : Int} (h : b.natAbs < 1000000) : m_Lcommon [.int a, .int b] = .ret (.int (Nat.gcd a.natAbs b.natAbs : Nat)) := by
  have e : m_Lcommon [.int a, .int b] = (S_Lcommon [.val (.int a), .val (.int b)]).bind outD := rfl
  rw [e]
  unfold S_Lcommon
  have ab : ∀ i : Int, (if i < 0 then -i else i) = (i.natAbs : Int) := fun i => by split <;> omega
  have s : dPar 0 1 (dCall cAbs (dCons (dPeek 0) dNil)) (dCall cAbs (dCons (dPeek 1) dNil)) [.val (.int a), .val (.int b)] = .ret (.nx [.val (.int (a.natAbs : Int)), .val (.int (b.natAbs : Int))]) := by
    simp only [r_par, r_call, r_cons, r_peek, r_nil, Cm.ret_bind, r_abs, ab, List.getElem?_cons_zero, List.getElem?_cons_succ]
    rfl
  rw [r_seq, s, Cm.ret_bind]
  simp only []
  have g := gcd_go FUEL a.natAbs b.natAbs (Nat.lt_of_lt_of_le h (by decide))
  rw [r_seq, g, Cm.ret_bind]
  rfl
theorem sl4 (a b c d : Int) (ha : a = 0 ∨ a = 1) (hb : b = 0 ∨ b = 1) (hc : c = 0 ∨ c = 1) (hd : d = 0 ∨ d = 1) : (setLen [a, b, c, d] == 1) = decide ((a = 1 ∧ b = 1 ∧ c = 1 ∧ d = 1) ∨ (a = 0 ∧ b = 0 ∧ c = 0 ∧ d = 0)) := by
  rcases ha with rfl | rfl <;> rcases hb with rfl | rfl <;> rcases hc with rfl | rfl <;> rcases hd with rfl | rfl <;> decide
@[simp] theorem r_lenSet (f : DE) (env : Fs.Env) : dLenSet f env = (f env).bind fun d => match d with
  | .list ds => match asInts ds with
    | some ns => if ns.length < 64 then .ret (.int (setLen ns)) else .bad
    | none => .bad
  | _ => .bad := rfl
/-- the shared number's parts have not all even -/
theorem shr_odd {x : Qt} (h0 : nsq x ≠ 0) : ¬ (x.a / shr x % 2 = 0 ∧ x.b / shr x % 2 = 0 ∧ x.c / shr x % 2 = 0 ∧ x.d / shr x % 2 = 0) := by
  rintro ⟨h1, h2, h3, h4⟩
  have sp := shr_pos h0
  obtain ⟨d1, d2, d3, d4⟩ := shr_dvd x
  have tw : ∀ i : Int, (shr x : Int) ∣ i → i / shr x % 2 = 0 → ((2 * shr x : Nat) : Int) ∣ i := fun i ⟨k, hk⟩ h => by
    rw [hk, Int.mul_ediv_cancel_left _ (by omega)] at h
    obtain ⟨j, hj⟩ : ∃ j, k = 2 * j := ⟨k / 2, by omega⟩
    refine ⟨j, ?_⟩
    rw [hk, hj]
    push_cast
    rw [Int.mul_left_comm, Int.mul_assoc]
  have := dvd_shr (tw _ d1 h1) (tw _ d2 h2) (tw _ d3 h3) (tw _ d4 h4)
  have := Nat.le_of_dvd sp this
  omega
/-- parts below a million -/
structure Sm (x : Qt) : Prop where
  a : x.a.natAbs < 500000
  b : x.b.natAbs < 500000
  c : x.c.natAbs < 500000
  d : x.d.natAbs < 500000
theorem Sm.bq {x : Qt} (h : Sm x) : Bq 20 x := bq_of (n := 500000) (by decide) ⟨Nat.le_of_lt h.a, Nat.le_of_lt h.b, Nat.le_of_lt h.c, Nat.le_of_lt h.d⟩
theorem ev_Lcontent {x : Qt} (hb : Sm x) (h0 : nsq x ≠ 0) : ∃ r : D, m_Lcontent [x.D] = .ret (.tuple [.int (cont x), r]) := by
  have sp := shr_pos h0
  have g1 := ev_Lcommon (a := x.a) (b := x.b) (by have := hb.b; omega)
  have g2 := ev_Lcommon (a := x.c) (b := x.d) (by have := hb.d; omega)
  have lt : (Nat.gcd x.c.natAbs x.d.natAbs) < 1000000 := by
    by_cases hd : x.d.natAbs = 0
    · rw [hd, Nat.gcd_zero_right]; have := hb.c; omega
    · have := Nat.gcd_le_right x.c.natAbs (Nat.pos_of_ne_zero hd)
      have := hb.d
      omega
  have lt2 : (Nat.gcd x.a.natAbs x.b.natAbs) < 1000000 := by
    by_cases hd : x.b.natAbs = 0
    · rw [hd, Nat.gcd_zero_right]; have := hb.a; omega
    · have := Nat.gcd_le_right x.a.natAbs (Nat.pos_of_ne_zero hd)
      have := hb.b
      omega
  have g3 := ev_Lcommon (a := (Nat.gcd x.a.natAbs x.b.natAbs : Nat)) (b := (Nat.gcd x.c.natAbs x.d.natAbs : Nat)) (by simpa using lt)
  rw [Int.natAbs_natCast, Int.natAbs_natCast, show Nat.gcd (Nat.gcd x.a.natAbs x.b.natAbs) (Nat.gcd x.c.natAbs x.d.natAbs) = shr x from rfl] at g3
  have hl : (shr x).log2 < 9000 := by
    have : shr x ≤ Nat.gcd x.a.natAbs x.b.natAbs ∨ shr x ≤ Nat.gcd x.c.natAbs x.d.natAbs := by
      unfold shr
      by_cases h : Nat.gcd x.c.natAbs x.d.natAbs = 0
      · left; rw [h, Nat.gcd_zero_right]; exact Nat.le_refl _
      · right; exact Nat.gcd_le_right _ (Nat.pos_of_ne_zero h)
    have : shr x < 2 ^ 20 := by omega
    have := (Nat.log2_lt (by omega)).mpr this
    omega
  have bd : ∀ i : Int, Bd 20 i → Bd 20 (i / shr x) := fun i b => ⟨Nat.lt_of_le_of_lt (Int.natAbs_ediv_le_natAbs _ _) b.lt⟩
  haveI := bd _ hb.bq.a
  haveI := bd _ hb.bq.b
  haveI := bd _ hb.bq.c
  haveI := bd _ hb.bq.d
  haveI : Bd 20 (2 : Int) := ⟨by decide⟩
  have nod := shr_odd h0
  have m2 : ∀ i : Int, i % 2 = 0 ∨ i % 2 = 1 := fun i => by omega
  have sl := sl4 _ _ _ _ (m2 (x.a / shr x)) (m2 (x.b / shr x)) (m2 (x.c / shr x)) (m2 (x.d / shr x))
  show ∃ r, m_Lcontent [q4 x.a x.b x.c x.d] = _
  have ea : ∀ a b c d : Int, asInts [.int a, .int b, .int c, .int d] = some [a, b, c, d] := fun _ _ _ _ => rfl
  have ei : ∀ n : Nat, vEq (.int (n : Int)) (.int 1) = .ret (.bool (n == 1)) := fun n => by
    rw [r_eq_ii]
    congr 2
    rw [Bool.eq_iff_iff]
    simp
    omega
  by_cases c : x.a / shr x % 2 = 1 ∧ x.b / shr x % 2 = 1 ∧ x.c / shr x % 2 = 1 ∧ x.d / shr x % 2 = 1
  · refine ⟨.tuple [.int (x.a / shr x), .int (x.b / shr x), .int (x.c / shr x), .int (x.d / shr x)], ?_⟩
    have ec : cont x = shr x := if_pos c
    have sl' : (setLen [x.a / shr x % 2, x.b / shr x % 2, x.c / shr x % 2, x.d / shr x % 2] == 1) = true := by rw [sl]; exact decide_eq_true (.inl c)
    rw [ec]
    simp [m_Lcontent, S_Lcontent, g1, g2, g3, sp, hl, ea, ei, sl', -r_eq_ii]
  · have ec : cont x = (shr x : Int) / 2 := if_neg c
    refine ⟨.tuple [.int (2 * (x.a / shr x)), .int (2 * (x.b / shr x)), .int (2 * (x.c / shr x)), .int (2 * (x.d / shr x))], ?_⟩
    have sl' : (setLen [x.a / shr x % 2, x.b / shr x % 2, x.c / shr x % 2, x.d / shr x % 2] == 1) = false := by rw [sl]; exact decide_eq_false fun h => h.elim c nod
    rw [ec]
    simp [m_Lcontent, S_Lcontent, g1, g2, g3, sp, hl, ea, ei, sl', -r_eq_ii, vMul_a]
theorem ev_Lsize {x : Qt} (hb : Bq 600 x) : m_Lsize [x.D] = .ret (.int (nsq x / 4)) := by
  haveI := hb.a
  haveI := hb.b
  haveI := hb.c
  haveI := hb.d
  show m_Lsize [q4 x.a x.b x.c x.d] = _
  simp [m_Lsize, S_Lsize, vMul_a]
  unfold nsq
  congr 1
  omega
theorem ev_Lback (x : Qt) : m_Lback [x.D] = .ret (conj x).D := by
  show m_Lback [q4 x.a x.b x.c x.d] = _
  simp [m_Lback, S_Lback]
  rfl
theorem nz_ne {x : Qt} (h : nsq x ≠ 0) : x ≠ Qt.zero := by rintro rfl; exact h rfl
theorem zero_nsq {x : Qt} (h : nsq x = 0) : x = Qt.zero := by
  have sq : ∀ i : Int, 0 ≤ i * i := fun i => by rcases Int.le_total 0 i with h | h; exact Int.mul_nonneg h h; exact Int.mul_nonneg_of_nonpos_of_nonpos h h
  have z : ∀ i : Int, i * i ≤ 0 → i = 0 := fun i h => by
    have : i * i = 0 := Int.le_antisymm h (sq i)
    rcases Int.mul_eq_zero.mp this with h | h <;> exact h
  have h1 := sq x.a
  have h2 := sq x.b
  have h3 := sq x.c
  have h4 := sq x.d
  unfold nsq at h
  have e1 := z x.a (by omega)
  have e2 := z x.b (by omega)
  have e3 := z x.c (by omega)
  have e4 := z x.d (by omega)
  obtain ⟨a, b, c, d⟩ := x
  simp only at e1 e2 e3 e4
  subst e1 e2 e3 e4
  rfl
end Fw

set_option linter.all false
set_option autoImplicit false
set_option maxRecDepth 100000
set_option exponentiation.threshold 2000
set_option maxHeartbeats 2000000
namespace Fw
open PySem Fs Fq Qt
/-! ## has_line, line_of, led_line, is_divided, left_of -/
instance (q : Int) (x : Qt) : Decidable (Zq q x) := by unfold Zq; infer_instance
theorem five_nat {q : Int} (hq : Five q) : ∃ p : Nat, q = (p : Int) ∧ 0 < p := ⟨q.toNat, by have := five_pos hq; omega, by have := five_pos hq; omega⟩
theorem np {p : Int} (hp : Five p) : m_need_prime [.int p] = .ret .none := by rcases hp with rfl | rfl | rfl | rfl | rfl <;> rfl
theorem zq_zero (q : Int) : Zq q Qt.zero := ⟨Int.zero_emod q, Int.zero_emod q, Int.zero_emod q, Int.zero_emod q⟩
theorem cont_zq {q : Int} (hq : Five q) {x : Qt} (hx : x.Ok) (h0 : nsq x ≠ 0) : (cont x % q == 0) = decide (Zq q x) := by
  obtain ⟨p, rfl, hp⟩ := five_nat hq
  rw [Bool.eq_iff_iff, decide_eq_true_iff, zq_dv hq hx, ← cont_iff hx h0 hp]
  simp
theorem ev_divby {q : Int} (hq : Five q) {x : Qt} (hb : Bq 600 x) (hx : x.Ok) : m_is_divided_by [x.D, .int q] = .ret (.bool (decide (Zq q x))) := by
  by_cases h0 : nsq x = 0
  · rw [zero_nsq h0, decide_eq_true (zq_zero q)]
    have e : m_is_divided_by [Qt.zero.D, .int q] = (S_is_divided_by [.val Qt.zero.D, .val (.int q)]).bind outD := rfl
    have hv : dOp vEq (dPeek 0) (dCst D_NOUGHT) [.val Qt.zero.D, .val (.int q)] = .ret (.bool true) := by
      rw [op2 (d1 := Qt.zero.D) (d2 := Qt.zero.D) rfl rfl, veq_D, decide_eq_true rfl]
    rw [e]
    unfold S_is_divided_by
    rw [r_ret, r_orV, hv]
    rfl
  · rw [← cont_zq hq hx h0]
    obtain ⟨p, rfl, hp⟩ := five_nat hq
    exact ev_isdiv_by hb hx h0 hp
theorem ev_div {q : Int} (hq : Five q) {x : Qt} (hb : Bq 600 x) (hx : x.Ok) : m_is_divided [x.D, .int q] = .ret (.bool (decide (Zq q x))) := by
  have e : m_is_divided [x.D, .int q] = (S_is_divided [.val x.D, .val (.int q)]).bind outD := rfl
  rw [e]
  unfold S_is_divided
  rw [r_seq, r_drop, call1 m_need_quad (d := x.D) rfl, ev_needQ hb hx, Cm.ret_bind, Cm.ret_bind]
  simp only []
  rw [r_seq, r_drop, call1 m_need_prime (d := .int q) rfl, np hq, Cm.ret_bind, Cm.ret_bind]
  simp only []
  rw [r_ret, call2 m_is_divided_by (d := x.D) (d2 := .int q) rfl rfl, ev_divby hq hb hx]
  rfl
theorem four_ne {q : Int} (hq : Five q) : 4 % q ≠ 0 := by rcases hq with rfl | rfl | rfl | rfl | rfl <;> decide
theorem size_z {q : Int} (hq : Five q) {x : Qt} (hx : x.Ok) : (nsq x / 4 % q == 0) = decide (nsq x % q = 0) := by
  obtain ⟨n, e, _⟩ := conj_self hx
  rw [e, show 4 * n / 4 = n by omega, Bool.eq_iff_iff, decide_eq_true_iff, zero_iff hq (four_ne hq)]
  simp
/-- it has a line -/
structure Hl (q : Int) (x : Qt) : Prop where
  ok : x.Ok
  n : nsq x % q = 0
  z : ¬ Zq q x
theorem Hl.nz {q : Int} {x : Qt} (h : Hl q x) : nsq x ≠ 0 := fun z => h.z (by rw [zero_nsq z]; exact zq_zero q)
theorem ev_sizeQ' {x : Qt} (h : Bq 600 x) : m_size_by [x.D] = .ret (.int (nsq x / 4)) := ev_sizeK (h.mono (by decide))
theorem ev_hasline {q : Int} (hq : Five q) {x : Qt} (hb : Bq 600 x) (h : Hl q x) : m_has_line [.int q, x.D] = .ret (.bool true) := by
  have e : m_has_line [.int q, x.D] = (S_has_line [.val (.int q), .val x.D]).bind outD := rfl
  have q0 := five_pos hq
  have c1 := (call1 m_size_by (env := [.val (.int q), .val x.D]) (f := dVar 1) (d := x.D) rfl).trans (ev_sizeQ' hb)
  have c2 : dOp vEq (dOp vMod (dCallN 1 m_size_by (dCons (dVar 1) dNil)) (dPeek 0)) (dCst (.int 0)) [.val (.int q), .val x.D] = .ret (.bool true) := by
    rw [op2 ((op2 c1 (d2 := .int q) rfl).trans (by rw [r_mod, if_pos q0])) (d2 := .int 0) rfl, r_eq_ii, size_z hq h.ok, decide_eq_true h.n]
  have c3 := (call2 m_is_divided_by (env := [.val (.int q), .val x.D]) (f := dVar 1) (f2 := dVar 0) (d := x.D) (d2 := .int q) rfl rfl).trans (ev_divby hq hb h.ok)
  rw [decide_eq_false h.z] at c3
  rw [e]
  unfold S_has_line
  rw [r_ret, r_andV, c2, Cm.ret_bind]
  simp only [if_true]
  rw [r_notV, c3]
  rfl
theorem ev_lineof {q e f : Int} {x : Qt} (hq : Five q) (M : Mk q e f) (hb : Bq 600 x) (h : Hl q x) : m_line_of [.int q, x.D] = .ret (lnD (lineT q (tbl q e f x))) := by
  have e1 : m_line_of [.int q, x.D] = (S_line_of [.val (.int q), .val x.D]).bind outD := rfl
  rw [e1]
  unfold S_line_of
  rw [r_seq, r_drop, call1 m_need_odd (d := .int q) rfl, M.n, Cm.ret_bind, Cm.ret_bind]
  simp only []
  rw [r_seq, r_drop, call1 m_need_quad (d := x.D) rfl, ev_needQ hb h.ok, Cm.ret_bind, Cm.ret_bind]
  simp only []
  have t : dNotT (dTru (dCallN 2 m_has_line (dCons (dVar 0) (dCons (dVar 1) dNil)))) [.val (.int q), .val x.D] = .ret false := by
    rw [r_notT, r_tru, call2 m_has_line (d := .int q) (d2 := x.D) rfl rfl, ev_hasline hq hb h]
    rfl
  rw [r_seq, ifs_no t, Cm.ret_bind]
  simp only []
  rw [r_ret, call2 m_line_by (d := .int q) (d2 := x.D) rfl rfl, ev_lineby hq M hb h.ok]
  rfl
theorem ev_led {q e f : Int} {x : Qt} {l : Int × Int} (hq : Five q) (M : Mk q e f) (hb : Bq 600 x) (hx : x.Ok) (hn : nsq x % q ≠ 0) (hl : IsL q l) : m_led_line [.int q, x.D, lnD l] = .ret (lnD (led q e f x l)) := by
  have q0 := five_pos hq
  have s1 : m_need_odd [.int q] = .ret .none := M.n
  have s2 := ev_needQ hb hx
  have s3 := ev_sizeQ' hb
  have s4 := ev_isl hl
  have s5 : m_led_by [.int q, x.D, lnD l] = .ret (lnD (led q e f x l)) := by
    have t := ev_tblby M hb hx
    obtain ⟨⟨a1, a2⟩, ⟨b1, b2⟩, ⟨c1, c2⟩, d1, d2⟩ := tbl_rng M x
    have := hq.le
    haveI : Bd 10 (tbl q e f x).A := ⟨by omega⟩
    haveI : Bd 10 (tbl q e f x).B := ⟨by omega⟩
    haveI : Bd 10 (tbl q e f x).C := ⟨by omega⟩
    haveI : Bd 10 (tbl q e f x).E := ⟨by omega⟩
    obtain ⟨l1, l2⟩ := isl_bd hq hl
    haveI := l1
    haveI := l2
    haveI b6 : Bd 600 ((tbl q e f x).A * l.1 + (tbl q e f x).B * l.2) := Bd.mono inferInstance (show 41 ≤ 600 by decide)
    have el := ev_ll (c0 := (tbl q e f x).A * l.1 + (tbl q e f x).B * l.2) (c1 := (tbl q e f x).C * l.1 + (tbl q e f x).E * l.2) hq
    unfold led
    generalize ll q ((tbl q e f x).A * l.1 + (tbl q e f x).B * l.2) ((tbl q e f x).C * l.1 + (tbl q e f x).E * l.2) = o at *
    generalize hz : x.D = z at *
    generalize tbl q e f x = w at *
    obtain ⟨s, t'⟩ := l
    simp [Tb.D] at t
    simp only [] at el l1 l2
    simp [m_led_by, S_led_by, t, vMul_a, el]
  have e : m_led_line [.int q, x.D, lnD l] = (S_led_line [.val (.int q), .val x.D, .val (lnD l)]).bind outD := rfl
  rw [e]
  have hsz := size_ne hx hn
  generalize x.D = z at *
  generalize hL : lnD l = L at *
  unfold S_led_line
  simp [s1, s2, s3, s4, s5, q0, hsz]
theorem pr_five {q : Int} (hq : Five q) : ∀ c d : Int, 0 ≤ c → 0 ≤ d → c * d = q * q → c = 1 ∨ c = q ∨ d = 1 := by
  have key : ∀ q ∈ [3, 5, 7, 11, 13], ∀ c < 170, q * q % c = 0 → c = 1 ∨ c = q ∨ c = q * q := by decide +kernel
  intro c d hc hd h
  obtain ⟨p, rfl, hp⟩ := five_nat hq
  have hm : p ∈ [3, 5, 7, 11, 13] := by
    rcases hq with h | h | h | h | h <;> simp <;> omega
  obtain ⟨c, rfl⟩ := Int.eq_ofNat_of_zero_le hc
  obtain ⟨d, rfl⟩ := Int.eq_ofNat_of_zero_le hd
  have h' : c * d = p * p := by exact_mod_cast h
  have hpp : p * p < 170 := by
    have : p ≤ 13 := by have := hq.le; omega
    have := Nat.mul_le_mul this this
    omega
  have hpos : 0 < p * p := Nat.mul_pos hp hp
  have hdp : 0 < d := Nat.pos_of_ne_zero fun z => by rw [z] at h'; omega
  have hc2 : c < 170 := Nat.lt_of_le_of_lt (Nat.le_mul_of_pos_right c hdp) (by omega)
  rcases key p hm c hc2 (by rw [← h']; exact Nat.mul_mod_right c d) with r | r | r
  · exact .inl (by rw [r]; rfl)
  · exact .inr (.inl (by rw [r]))
  · refine .inr (.inr ?_)
    rw [r] at h'
    have : d = 1 := Nat.eq_of_mul_eq_mul_left hpos (by omega)
    rw [this]; rfl
theorem nsq_lt {x : Qt} {k : Nat} (h : Bq k x) : nsq x < 2 ^ (2 * k + 2) := by
  have key : ∀ i : Int, Bd k i → i * i < 2 ^ (2 * k) := fun i b => by
    have h1 := b.lt
    have h2 : i.natAbs * i.natAbs < 2 ^ k * 2 ^ k := Nat.mul_lt_mul_of_lt_of_lt h1 h1
    rw [← Nat.pow_add, show k + k = 2 * k by omega] at h2
    have h3 : ((i.natAbs * i.natAbs : Nat) : Int) = i * i := by rw [Int.natAbs_mul_self]
    rw [← h3]
    exact_mod_cast h2
  have h1 := key _ h.a
  have h2 := key _ h.b
  have h3 := key _ h.c
  have h4 := key _ h.d
  rw [show (2 : Int) ^ (2 * k + 2) = 2 ^ (2 * k) * 4 by rw [Int.pow_add]; rfl]
  unfold nsq
  omega
theorem ev_needleft {q : Int} (hq : Five q) {x : Qt} (hb : Bq 600 x) (h : Hl q x) : m_need_left [x.D, .int q] = .ret .none := by
  have e : m_need_left [x.D, .int q] = (S_need_left [.val x.D, .val (.int q)]).bind outD := rfl
  have q0 := five_pos hq
  rw [e]
  unfold S_need_left
  rw [r_seq, r_drop, call1 m_need_quad (d := x.D) rfl, ev_needQ hb h.ok, Cm.ret_bind, Cm.ret_bind]
  simp only []
  have t : dTru (dOp vEq (dPeek 0) (dCst D_NOUGHT)) [.val x.D, .val (.int q)] = .ret false := tru_b (by
    rw [op2 (d1 := x.D) (d2 := Qt.zero.D) rfl rfl, veq_D, decide_eq_false (nz_ne h.nz)])
  rw [r_seq, ifs_no t, Cm.ret_bind]
  simp only []
  rw [r_seq, r_drop, call1 m_need_prime (d := .int q) rfl, np hq, Cm.ret_bind, Cm.ret_bind]
  simp only []
  have c1 := (call1 m_size_by (env := [.val x.D, .val (.int q)]) (f := dVar 0) (d := x.D) rfl).trans (ev_sizeQ' hb)
  have t2 : dOrT (dTru (dOp vNe (dOp vMod (dCallN 1 m_size_by (dCons (dVar 0) dNil)) (dPeek 1)) (dCst (.int 0)))) (dTru (dCallN 2 m_is_divided_by (dCons (dVar 0) (dCons (dVar 1) dNil)))) [.val x.D, .val (.int q)] = .ret false := by
    refine or_no (tru_b ?_) (tru_b ?_)
    · rw [op2 ((op2 c1 (d2 := .int q) rfl).trans (by rw [r_mod, if_pos q0])) (d2 := .int 0) rfl, r_ne_ii, size_z hq h.ok, decide_eq_true h.n]
      rfl
    · rw [call2 m_is_divided_by (d := x.D) (d2 := .int q) rfl rfl, ev_divby hq hb h.ok, decide_eq_false h.z]
  rw [ifs_no t2]
  rfl
theorem pQ_conj {q : Int} {f : Qt} (hf : f.Ok) (h : nsq f = 4 * q) : pQ q = mul f (conj f) := by
  obtain ⟨n, e, c⟩ := conj_self hf
  have : n = q := by omega
  subst this
  first
  | exact c.2.symm
  | exact c.1.symm
  | exact c.symm
theorem ev_leftof {q : Int} (hq : Five q) {x f s : Qt} (hb : Bq 600 x) (h : Hl q x) (hf : f.Ok) (hs : s.Ok) (hn : nsq f = 4 * q) (d1 : x = mul f s) (hfst : fst f = f) : m_left_of [x.D, .int q] = .ret f.D := by
  have e : m_left_of [x.D, .int q] = (S_left_of [.val x.D, .val (.int q)]).bind outD := rfl
  have q0 := five_pos hq
  have ql := hq.le
  have hlt : nsq x < 2 ^ 1400 := Int.lt_of_lt_of_le (nsq_lt hb) (by
    have : (2 : Nat) ^ (2 * 600 + 2) ≤ 2 ^ 1400 := Nat.pow_le_pow_right (by decide) (by decide)
    exact_mod_cast this)
  obtain ⟨g, eg, G⟩ := ev_left_by_prime h.ok hlt q0 (by omega)
  obtain ⟨n, en, _⟩ := conj_self h.ok
  have hn4 := h.n
  rw [en] at hn4
  obtain ⟨m, hm⟩ := Int.dvd_of_emod_eq_zero ((zero_iff hq (four_ne hq)).mp hn4)
  have hg := left_prime_fst (by omega) (pr_five hq) h.ok G (n := m) (by rw [en, hm]) (fun z => h.z ((zq_dv hq h.ok).mpr z)) hf hs (ok_conj hf) hn d1 (pQ_conj hf hn)
  rw [hg, hfst] at eg
  rw [e]
  unfold S_left_of
  rw [r_seq, r_drop, call2 m_need_left (d := x.D) (d2 := .int q) rfl rfl, ev_needleft hq hb h, Cm.ret_bind, Cm.ret_bind]
  simp only []
  rw [r_ret, call2 m_left_by_prime (d := x.D) (d2 := .int q) rfl rfl, eg]
  rfl
end Fw

set_option linter.all false
set_option autoImplicit false
set_option maxRecDepth 100000
set_option exponentiation.threshold 2000
set_option maxHeartbeats 2000000
namespace Fw
open PySem Fs Fq Qt
def qd3 : List Qt := [⟨2, -2, -2, 0⟩, ⟨2, -2, 0, 2⟩, ⟨2, -2, 0, -2⟩, ⟨2, -2, 2, 0⟩, ⟨2, 0, -2, 2⟩, ⟨2, 0, -2, -2⟩, ⟨2, 0, 2, 2⟩, ⟨2, 0, 2, -2⟩, ⟨2, 2, -2, 0⟩, ⟨2, 2, 0, 2⟩, ⟨2, 2, 0, -2⟩, ⟨2, 2, 2, 0⟩, ⟨3, -1, -1, 1⟩, ⟨3, -1, -1, -1⟩, ⟨3, -1, 1, 1⟩, ⟨3, -1, 1, -1⟩, ⟨3, 1, -1, 1⟩, ⟨3, 1, -1, -1⟩, ⟨3, 1, 1, 1⟩, ⟨3, 1, 1, -1⟩]
theorem ev_quads3 : m_quads_of [.int 3] = .ret (.list (qd3.map D)) := by rfl
def qd5 : List Qt := [⟨3, -3, -1, 1⟩, ⟨3, -3, -1, -1⟩, ⟨3, -3, 1, 1⟩, ⟨3, -3, 1, -1⟩, ⟨3, -1, -3, 1⟩, ⟨3, -1, -3, -1⟩, ⟨3, -1, -1, 3⟩, ⟨3, -1, -1, -3⟩, ⟨3, -1, 1, 3⟩, ⟨3, -1, 1, -3⟩, ⟨3, -1, 3, 1⟩, ⟨3, -1, 3, -1⟩, ⟨3, 1, -3, 1⟩, ⟨3, 1, -3, -1⟩, ⟨3, 1, -1, 3⟩, ⟨3, 1, -1, -3⟩, ⟨3, 1, 1, 3⟩, ⟨3, 1, 1, -3⟩, ⟨3, 1, 3, 1⟩, ⟨3, 1, 3, -1⟩, ⟨3, 3, -1, 1⟩, ⟨3, 3, -1, -1⟩, ⟨3, 3, 1, 1⟩, ⟨3, 3, 1, -1⟩, ⟨4, -2, 0, 0⟩, ⟨4, 0, -2, 0⟩, ⟨4, 0, 0, 2⟩, ⟨4, 0, 0, -2⟩, ⟨4, 0, 2, 0⟩, ⟨4, 2, 0, 0⟩]
theorem ev_quads5 : m_quads_of [.int 5] = .ret (.list (qd5.map D)) := by rfl
def qd7 : List Qt := [⟨3, -3, -3, 1⟩, ⟨3, -3, -3, -1⟩, ⟨3, -3, -1, 3⟩, ⟨3, -3, -1, -3⟩, ⟨3, -3, 1, 3⟩, ⟨3, -3, 1, -3⟩, ⟨3, -3, 3, 1⟩, ⟨3, -3, 3, -1⟩, ⟨3, -1, -3, 3⟩, ⟨3, -1, -3, -3⟩, ⟨3, -1, 3, 3⟩, ⟨3, -1, 3, -3⟩, ⟨3, 1, -3, 3⟩, ⟨3, 1, -3, -3⟩, ⟨3, 1, 3, 3⟩, ⟨3, 1, 3, -3⟩, ⟨3, 3, -3, 1⟩, ⟨3, 3, -3, -1⟩, ⟨3, 3, -1, 3⟩, ⟨3, 3, -1, -3⟩, ⟨3, 3, 1, 3⟩, ⟨3, 3, 1, -3⟩, ⟨3, 3, 3, 1⟩, ⟨3, 3, 3, -1⟩, ⟨4, -2, -2, 2⟩, ⟨4, -2, -2, -2⟩, ⟨4, -2, 2, 2⟩, ⟨4, -2, 2, -2⟩, ⟨4, 2, -2, 2⟩, ⟨4, 2, -2, -2⟩, ⟨4, 2, 2, 2⟩, ⟨4, 2, 2, -2⟩, ⟨5, -1, -1, 1⟩, ⟨5, -1, -1, -1⟩, ⟨5, -1, 1, 1⟩, ⟨5, -1, 1, -1⟩, ⟨5, 1, -1, 1⟩, ⟨5, 1, -1, -1⟩, ⟨5, 1, 1, 1⟩, ⟨5, 1, 1, -1⟩]
theorem ev_quads7 : m_quads_of [.int 7] = .ret (.list (qd7.map D)) := by rfl
def qd11 : List Qt := [⟨5, -3, -3, 1⟩, ⟨5, -3, -3, -1⟩, ⟨5, -3, -1, 3⟩, ⟨5, -3, -1, -3⟩, ⟨5, -3, 1, 3⟩, ⟨5, -3, 1, -3⟩, ⟨5, -3, 3, 1⟩, ⟨5, -3, 3, -1⟩, ⟨5, -1, -3, 3⟩, ⟨5, -1, -3, -3⟩, ⟨5, -1, 3, 3⟩, ⟨5, -1, 3, -3⟩, ⟨5, 1, -3, 3⟩, ⟨5, 1, -3, -3⟩, ⟨5, 1, 3, 3⟩, ⟨5, 1, 3, -3⟩, ⟨5, 3, -3, 1⟩, ⟨5, 3, -3, -1⟩, ⟨5, 3, -1, 3⟩, ⟨5, 3, -1, -3⟩, ⟨5, 3, 1, 3⟩, ⟨5, 3, 1, -3⟩, ⟨5, 3, 3, 1⟩, ⟨5, 3, 3, -1⟩, ⟨6, -2, -2, 0⟩, ⟨6, -2, 0, 2⟩, ⟨6, -2, 0, -2⟩, ⟨6, -2, 2, 0⟩, ⟨6, 0, -2, 2⟩, ⟨6, 0, -2, -2⟩, ⟨6, 0, 2, 2⟩, ⟨6, 0, 2, -2⟩, ⟨6, 2, -2, 0⟩, ⟨6, 2, 0, 2⟩, ⟨6, 2, 0, -2⟩, ⟨6, 2, 2, 0⟩]
theorem ev_quads11 : m_quads_of [.int 11] = .ret (.list (qd11.map D)) := by rfl
def qd13 : List Qt := [⟨4, -4, -4, 2⟩, ⟨4, -4, -4, -2⟩, ⟨4, -4, -2, 4⟩, ⟨4, -4, -2, -4⟩, ⟨4, -4, 2, 4⟩, ⟨4, -4, 2, -4⟩, ⟨4, -4, 4, 2⟩, ⟨4, -4, 4, -2⟩, ⟨4, -2, -4, 4⟩, ⟨4, -2, -4, -4⟩, ⟨4, -2, 4, 4⟩, ⟨4, -2, 4, -4⟩, ⟨4, 2, -4, 4⟩, ⟨4, 2, -4, -4⟩, ⟨4, 2, 4, 4⟩, ⟨4, 2, 4, -4⟩, ⟨4, 4, -4, 2⟩, ⟨4, 4, -4, -2⟩, ⟨4, 4, -2, 4⟩, ⟨4, 4, -2, -4⟩, ⟨4, 4, 2, 4⟩, ⟨4, 4, 2, -4⟩, ⟨4, 4, 4, 2⟩, ⟨4, 4, 4, -2⟩, ⟨5, -5, -1, 1⟩, ⟨5, -5, -1, -1⟩, ⟨5, -5, 1, 1⟩, ⟨5, -5, 1, -1⟩, ⟨5, -3, -3, 3⟩, ⟨5, -3, -3, -3⟩, ⟨5, -3, 3, 3⟩, ⟨5, -3, 3, -3⟩, ⟨5, -1, -5, 1⟩, ⟨5, -1, -5, -1⟩, ⟨5, -1, -1, 5⟩, ⟨5, -1, -1, -5⟩, ⟨5, -1, 1, 5⟩, ⟨5, -1, 1, -5⟩, ⟨5, -1, 5, 1⟩, ⟨5, -1, 5, -1⟩, ⟨5, 1, -5, 1⟩, ⟨5, 1, -5, -1⟩, ⟨5, 1, -1, 5⟩, ⟨5, 1, -1, -5⟩, ⟨5, 1, 1, 5⟩, ⟨5, 1, 1, -5⟩, ⟨5, 1, 5, 1⟩, ⟨5, 1, 5, -1⟩, ⟨5, 3, -3, 3⟩, ⟨5, 3, -3, -3⟩, ⟨5, 3, 3, 3⟩, ⟨5, 3, 3, -3⟩, ⟨5, 5, -1, 1⟩, ⟨5, 5, -1, -1⟩, ⟨5, 5, 1, 1⟩, ⟨5, 5, 1, -1⟩, ⟨6, -4, 0, 0⟩, ⟨6, 0, -4, 0⟩, ⟨6, 0, 0, 4⟩, ⟨6, 0, 0, -4⟩, ⟨6, 0, 4, 0⟩, ⟨6, 4, 0, 0⟩, ⟨7, -1, -1, 1⟩, ⟨7, -1, -1, -1⟩, ⟨7, -1, 1, 1⟩, ⟨7, -1, 1, -1⟩, ⟨7, 1, -1, 1⟩, ⟨7, 1, -1, -1⟩, ⟨7, 1, 1, 1⟩, ⟨7, 1, 1, -1⟩]
theorem ev_quads13 : m_quads_of [.int 13] = .ret (.list (qd13.map D)) := by rfl
/-- a quad of size p -/
structure Gp (p : Int) (x : Qt) : Prop where
  ok : x.Ok
  n : nsq x = 4 * p
  b : Bq 5 x
def gpB (p : Int) (x : Qt) : Bool := decide ((x.b - x.a) % 2 = 0) && decide ((x.c - x.a) % 2 = 0) && decide ((x.d - x.a) % 2 = 0) && decide (nsq x = 4 * p)
theorem sq_lt {a n : Int} (h : a * a ≤ n) (hn : n < 1024) : a.natAbs < 32 := by
  refine Nat.lt_of_not_le fun g => ?_
  have h2 : 32 * 32 ≤ a.natAbs * a.natAbs := Nat.mul_le_mul g g
  have h3 : ((a.natAbs * a.natAbs : Nat) : Int) = a * a := by rw [Int.natAbs_mul_self]
  omega
theorem gp_of {p : Int} {x : Qt} (hx : x.Ok) (hn : nsq x = 4 * p) (hp : p ≤ 13) : Gp p x := by
  have sq : ∀ t : Int, 0 ≤ t * t := fun t => by
    rcases Int.le_total 0 t with h | h
    · exact Int.mul_nonneg h h
    · exact Int.mul_nonneg_of_nonpos_of_nonpos h h
  have h1 := sq x.a
  have h2 := sq x.b
  have h3 := sq x.c
  have h4 := sq x.d
  refine ⟨hx, hn, ?_⟩
  unfold nsq at hn
  exact ⟨⟨sq_lt (n := 4 * p) (by omega) (by omega)⟩, ⟨sq_lt (n := 4 * p) (by omega) (by omega)⟩, ⟨sq_lt (n := 4 * p) (by omega) (by omega)⟩, ⟨sq_lt (n := 4 * p) (by omega) (by omega)⟩⟩
theorem gp_b {p : Int} (hp : p ≤ 13) {x : Qt} (h : gpB p x = true) : Gp p x := by
  unfold gpB at h
  simp only [Bool.and_eq_true, decide_eq_true_eq] at h
  obtain ⟨⟨⟨h1, h2⟩, h3⟩, h4⟩ := h
  exact gp_of ⟨h1, h2, h3⟩ h4 hp
theorem tk_D (x : Qt) : isTK x.D = true := rfl
theorem list_P {P : Qt → Prop} : ∀ l : List D, (∀ d ∈ l, ∃ y : Qt, P y ∧ d = y.D) → ∃ ys : List Qt, l = ys.map D ∧ ∀ y ∈ ys, P y
  | [], _ => ⟨[], rfl, fun _ h => by cases h⟩
  | d :: l, h => by
    obtain ⟨y, hy, e⟩ := h d List.mem_cons_self
    obtain ⟨ys, e2, h2⟩ := list_P l fun z hz => h z (List.mem_cons_of_mem _ hz)
    refine ⟨y :: ys, by rw [e, e2]; rfl, fun z hz => ?_⟩
    rcases List.mem_cons.mp hz with rfl | hz
    · exact hy
    · exact h2 z hz
theorem sort_P {P : Qt → Prop} (ys : List Qt) (h : ∀ y ∈ ys, P y) : ∃ zs : List Qt, (ys.map D).mergeSort leD = zs.map D ∧ (∀ z ∈ zs, P z) ∧ (∀ z, z ∈ ys ↔ z ∈ zs) ∧ zs.length = ys.length := by
  have pm : ((ys.map D).mergeSort leD).Perm (ys.map D) := List.mergeSort_perm _ _
  obtain ⟨zs, e, h2⟩ := list_P ((ys.map D).mergeSort leD) (P := fun y => P y ∧ y ∈ ys) fun d hd => by
    obtain ⟨y, hy, rfl⟩ := List.mem_map.mp (pm.mem_iff.mp hd)
    exact ⟨y, ⟨h y hy, hy⟩, rfl⟩
  rw [e] at pm
  refine ⟨zs, e, fun z hz => (h2 z hz).1, fun z => ⟨fun hz => ?_, fun hz => (h2 z hz).2⟩, by simpa using pm.length_eq⟩
  have : z.D ∈ zs.map D := pm.mem_iff.mpr (List.mem_map.mpr ⟨z, hz, rfl⟩)
  obtain ⟨w, hw, e⟩ := List.mem_map.mp this
  rw [← D_inj e]; exact hw

def KvS (S : Qt → Prop) (kvs : List (Fs.D × Fs.D)) : Prop := ∃ ys : List Qt, keysOf kvs = ys.map D ∧ ∀ z, z ∈ ys ↔ S z
theorem keyEq_D {x y : Qt} (h : keyEq x.D y.D = true) : x = y := by
  obtain ⟨a, b, c, d⟩ := x
  obtain ⟨a', b', c', d'⟩ := y
  simp [keyEq, Qt.D, nks, nk] at h
  obtain ⟨rfl, rfl, rfl, rfl⟩ := h
  rfl
theorem put_S {S : Qt → Prop} {kvs : List (Fs.D × Fs.D)} {y : Qt} {v : Fs.D} (h : KvS S kvs) : KvS (fun z => S z ∨ z = y) (putD kvs y.D v) ∧ (putD kvs y.D v).length ≤ kvs.length + 1 ∧ putD kvs y.D v ≠ [] ∧ (kvs ≠ [(.none, .none)]) := by
  obtain ⟨ys, e, hp⟩ := h
  have hn : kvs ≠ [(.none, .none)] := by
    rintro rfl
    cases ys with
    | nil => cases e
    | cons y ys => cases e
  unfold putD
  split
  · rename_i hc
    refine ⟨⟨ys, ?_, fun z => ?_⟩, by rw [List.length_map]; omega, ?_, hn⟩
    · rw [← e]
      unfold keysOf
      rw [List.map_map]
      refine List.map_congr_left fun a _ => ?_
      show (if keyEq a.1 y.D = true then (a.1, v) else a).1 = a.1
      split <;> rfl
    · rw [hp]
      refine ⟨.inl, fun h => h.elim id fun g => ?_⟩
      subst g
      obtain ⟨en, h1, h2⟩ := List.any_eq_true.mp hc
      have h3 : en.1 ∈ keysOf kvs := List.mem_map.mpr ⟨en, h1, rfl⟩
      rw [e] at h3
      obtain ⟨w, hw, ew⟩ := List.mem_map.mp h3
      rw [← ew] at h2
      rw [← keyEq_D h2]
      exact (hp w).mp hw
    · rintro h
      rw [List.map_eq_nil_iff] at h
      rw [h] at hc
      cases hc
  · refine ⟨⟨ys ++ [y], ?_, fun z => ?_⟩, by simp, by simp, hn⟩
    · unfold keysOf at e ⊢
      rw [List.map_append, List.map_append, e]
      rfl
    · rw [List.mem_append, hp]
      simp
theorem KvS.congr {S T : Qt → Prop} {kvs : List (Fs.D × Fs.D)} (h : KvS S kvs) (g : ∀ z, S z ↔ T z) : KvS T kvs := by
  obtain ⟨ys, e, hp⟩ := h
  exact ⟨ys, e, fun z => (hp z).trans (g z)⟩
theorem dc_goS : ∀ (xs : List Qt) (S : Qt → Prop) (acc : List (Fs.D × Fs.D)) (env : Fs.Env), env.length = 2 → (∀ x ∈ xs, Bq 3000 x) → KvS S acc → ∃ kvs, dcGo (gN 1) dYes (dCallN 1 m_first_by (dCons (dVar 1) dNil)) (dCst (.bool true)) (xs.map D) acc env = .ret kvs ∧ KvS (fun z => S z ∨ ∃ x ∈ xs, z = fst x) kvs ∧ kvs.length ≤ acc.length + xs.length ∧ (acc ≠ [] ∨ xs ≠ [] → kvs ≠ [])
  | [], S, acc, env, _, _, h => ⟨acc, rfl, h.congr fun z => by simp, by simp, fun h => h.elim id fun g => absurd rfl g⟩
  | x :: xs, S, acc, env, el, hx, h => by
    have G := hx x List.mem_cons_self
    obtain ⟨h1, h2, h3, _⟩ := put_S (y := fst x) (v := .bool true) h
    obtain ⟨kvs, e, k1, k2, k3⟩ := dc_goS xs _ (putD acc (fst x).D (.bool true)) env (by assumption) (fun y hy => hx y (List.mem_cons_of_mem _ hy)) h1
    refine ⟨kvs, ?_, k1.congr fun z => ?_, by simp only [List.length_cons]; omega, fun _ => k3 (.inl h3)⟩
    · match env, el with
      | [x0, x1], _ =>
        have ef := (call1 m_first_by (env := [x0, .val x.D]) (f := dVar 1) (d := x.D) rfl).trans (ev_first G)
        have hk : keyOk acc (fst x).D = true := by
          unfold keyOk
          rw [tk_D]
          obtain ⟨ys, ek, _⟩ := h
          cases acc with
          | nil => rfl
          | cons a acc =>
            cases ys with
            | nil => cases ek
            | cons y ys =>
              have : a.1 = y.D := by injection ek
              simp [this, tk_D]
        show (Cm.bind (Cm.ret [x0, .val x.D]) fun e1 => (dYes e1).bind fun b => if b = true then (dCallN 1 m_first_by (dCons (dVar 1) dNil) e1).bind fun k => (dCst (.bool true) e1).bind fun v => if keyOk acc k = true ∧ flatD v = true then dcGo (gN 1) dYes (dCallN 1 m_first_by (dCons (dVar 1) dNil)) (dCst (.bool true)) (xs.map D) (putD acc k v) [x0, x1] else .bad else _) = _
        rw [Cm.ret_bind, r_yes, Cm.ret_bind, if_pos rfl, ef, Cm.ret_bind, r_cst, Cm.ret_bind, if_pos ⟨hk, rfl⟩]
        exact e
    · constructor
      · rintro ((h | h) | ⟨y, hy, h⟩)
        · exact .inl h
        · exact .inr ⟨x, List.mem_cons_self, h⟩
        · exact .inr ⟨y, List.mem_cons_of_mem _ hy, h⟩
      · rintro (h | ⟨y, hy, h⟩)
        · exact .inl (.inl h)
        · rcases List.mem_cons.mp hy with rfl | hy
          · exact .inl (.inr h)
          · exact .inr ⟨y, hy, h⟩
theorem ev_firstsS {p : Int} {xs : List Qt} (eq_ : m_quads_of [.int p] = .ret (.list (xs.map D))) (hx : ∀ x ∈ xs, Bq 3000 x) (hn : xs ≠ []) (hl : xs.length < 500) : ∃ zs : List Qt, m_firsts_by [.int p] = .ret (.list (zs.map D)) ∧ (∀ z, z ∈ zs ↔ ∃ x ∈ xs, z = fst x) ∧ zs.length < 500 := by
  obtain ⟨kvs, ek, ⟨ys, e1, h1⟩, k2, k3⟩ := dc_goS xs (fun _ => False) [] [.val (.int p), .no] rfl hx ⟨[], rfl, fun z => by simp⟩
  obtain ⟨zs, e2, h2, h3, h4⟩ := sort_P (P := fun _ => True) ys fun _ _ => trivial
  have hkl : kvs.length = ys.length := by
    have := congrArg List.length e1
    simpa [keysOf] using this
  have hkn := k3 (.inr hn)
  refine ⟨zs, ?_, fun z => by rw [← h3, h1]; simp, by simp at k2; rw [h4, ← hkl]; omega⟩
  have e : m_firsts_by [.int p] = (S_firsts_by [.val (.int p), .no]).bind outD := rfl
  rw [e]
  unfold S_firsts_by
  have hd : dDc (dItems (dCallN 1 m_quads_of (dCons (dVar 0) dNil))) (gN 1) dYes (dCallN 1 m_first_by (dCons (dVar 1) dNil)) (dCst (.bool true)) [1] [.val (.int p), .no] = .ret (.dict kvs) := by
    have hi : dItems (dCallN 1 m_quads_of (dCons (dVar 0) dNil)) [.val (.int p), .no] = .ret (xs.map D) := by
      rw [r_items, call1 m_quads_of (d := .int p) rfl, eq_]
      rfl
    unfold dDc
    rw [hi, Cm.ret_bind, if_pos (by rw [List.length_map]; omega)]
    show (dcGo _ _ _ _ _ [] [.val (.int p), .no]).bind _ = _
    rw [ek]
    rfl
  rw [r_ret, r_call, r_cons, hd, Cm.ret_bind, r_nil, Cm.ret_bind, Cm.ret_bind]
  have hs : cSortD [.dict kvs] = .ret (.list (zs.map D)) := by
    have hi : isDict (.dict kvs) = true := by
      have := (put_S (S := fun z => z ∈ ys) (v := .none) (y := ⟨0, 0, 0, 0⟩) ⟨ys, e1, fun z => Iff.rfl⟩).2.2.2
      unfold isDict
      split
      · rename_i h; injection h with h; subst h
        split
        · exact absurd rfl this
        · rfl
      · rename_i h; exact absurd rfl (h kvs)
    have e0 : cSortD [.dict kvs] = if isDict (.dict kvs) = true ∧ kvs.length ≤ 1000000 ∧ SeqAt.shaped (.list (keysOf kvs)) = true ∧ alikeB (keysOf kvs) = true ∧ sortB (keysOf kvs) = true then .ret (.list ((keysOf kvs).mergeSort leD)) else .bad := rfl
    rw [e0, e1, if_pos ⟨hi, by simp at k2; omega, shaped_Ds ys, alike_D ys, sort_D ys⟩, e2]
  rw [hs]
  rfl
end Fw

set_option linter.all false
set_option autoImplicit false
set_option maxRecDepth 100000
set_option exponentiation.threshold 2000
set_option maxHeartbeats 2000000
namespace Fw
open PySem Fs Fq Qt
/-! ## first_of_line -/
theorem isl_cross {q : Int} {l k : Int × Int} (hq : Five q) (hl : IsL q l) (hk : IsL q k) (h : (l.1 * k.2 - l.2 * k.1) % q = 0) : l = k := by
  have o := five_one hq
  obtain ⟨a, b⟩ := l
  obtain ⟨c, d⟩ := k
  rcases hl with hl | ⟨h1, h2, h3⟩ <;> rcases hk with hk | ⟨g1, g2, g3⟩
  · rw [hl, hk]
  · cases hl
    simp only at g1 h
    subst g1
    simp at h
    have := five_pos hq
    rcases hq with rfl | rfl | rfl | rfl | rfl <;> simp at h
  · cases hk
    simp only at h1 h
    subst h1
    simp at h
    rcases hq with rfl | rfl | rfl | rfl | rfl <;> simp at h
  · simp only at h1 h2 h3 g1 g2 g3 h
    subst h1 g1
    rw [Int.one_mul, Int.mul_one] at h
    have := Int.emod_eq_emod_iff_emod_sub_eq_zero.mpr h
    rw [Int.emod_eq_of_lt g2 g3, Int.emod_eq_of_lt h2 h3] at this
    rw [this]
def parB (q : Int) (t : Tb) (l : Int × Int) : Bool := decide ((t.A * l.2 - t.C * l.1) % q = 0) && decide ((t.B * l.2 - t.E * l.1) % q = 0)
theorem cross_z {q m a b c d : Int} (h1 : a % q = m * c % q) (h2 : b % q = m * d % q) : (a * d - b * c) % q = 0 := by
  have := cg_sub (cg_mul h1 (rfl : d % q = d % q)) (cg_mul h2 (rfl : c % q = c % q))
  rw [this, show m * c * d - m * d * c = 0 by grind, Int.zero_emod]
theorem r1_par {q m n : Int} {t : Tb} {l k : Int × Int} (hq : Five q) (hl : IsL q l) (hk : IsL q k) (R : R1 q t l m n) : parB q t k = true ↔ l = k := by
  unfold parB
  rw [Bool.and_eq_true, decide_eq_true_iff, decide_eq_true_iff]
  constructor
  · rintro ⟨h1, h2⟩
    refine isl_cross hq hl hk ?_
    have e1 := cg_sub (cg_mul R.a (rfl : k.2 % q = k.2 % q)) (cg_mul R.c (rfl : k.1 % q = k.1 % q))
    have e2 := cg_sub (cg_mul R.b (rfl : k.2 % q = k.2 % q)) (cg_mul R.e (rfl : k.1 % q = k.1 % q))
    rw [h1, show m * l.1 * k.2 - m * l.2 * k.1 = m * (l.1 * k.2 - l.2 * k.1) by grind] at e1
    rw [h2, show n * l.1 * k.2 - n * l.2 * k.1 = n * (l.1 * k.2 - l.2 * k.1) by grind] at e2
    rcases R.z with z | z
    · exact (zero_iff hq z).mp e1.symm
    · exact (zero_iff hq z).mp e2.symm
  · rintro rfl
    exact ⟨cross_z R.a R.c, cross_z R.b R.e⟩
theorem tbl_ne0 {q e f : Int} {x : Qt} (M : Mk q e f) (h : ¬ Zq q x) : ¬ ((tbl q e f x).A = 0 ∧ (tbl q e f x).B = 0 ∧ (tbl q e f x).C = 0 ∧ (tbl q e f x).E = 0) := fun ⟨h1, h2, h3, h4⟩ => h (tbl_zero M h1 h2 h3 h4)
theorem det0 {q e f : Int} {x : Qt} (hq : Five q) (M : Mk q e f) (h : nsq x % q = 0) : ((tbl q e f x).A * (tbl q e f x).E - (tbl q e f x).B * (tbl q e f x).C) % q = 0 :=
  (zero_iff hq (four_ne hq)).mp ((tbl_det M x).trans h)
theorem Hl.r1 {q e f : Int} {x : Qt} (hq : Five q) (M : Mk q e f) (h : Hl q x) : ∃ m n, R1 q (tbl q e f x) (lineT q (tbl q e f x)) m n :=
  line_r1 hq (rg_of M x) (det0 hq M h.n) (tbl_ne0 M h.z)
def allL (n : Nat) : List (Int × Int) := (0, 1) :: (List.range n).map fun (i : Nat) => ((1 : Int), (i : Int))
theorem mem_allL {q : Int} {l : Int × Int} (hl : IsL q l) : l ∈ allL q.toNat := by
  obtain ⟨a, b⟩ := l
  unfold allL
  rcases hl with h | ⟨h1, h2, h3⟩
  · rw [h]; exact List.mem_cons_self
  · simp only at h1 h2 h3
    subst h1
    refine List.mem_cons_of_mem _ (List.mem_map.mpr ⟨b.toNat, List.mem_range.mpr (by omega), ?_⟩)
    simp; omega
def finW (q e f : Int) (ws : List Qt) (l : Int × Int) : Bool := match ws.find? fun w => parB q (tbl q e f w) l with
  | some w => ws.all fun z => !parB q (tbl q e f z) l || decide (z = w)
  | none => false
def okW (q : Int) (w : Qt) : Bool := gpB q w && decide (fst w = w) && decide (¬ Zq q w)
structure Tq (q e f : Int) (xs : List Qt) : Prop where
  ev : m_quads_of [.int q] = .ret (.list (xs.map D))
  b : ∀ x ∈ xs, Bq 3000 x
  n : xs ≠ []
  l : xs.length < 500
  w : ((xs.map fst).all (okW q)) = true
  f : ((allL q.toNat).all (finW q e f (xs.map fst))) = true
theorem tq_b {p : Int} {xs : List Qt} (h : p ≤ 13) (h2 : xs.all (gpB p) = true) : ∀ x ∈ xs, Bq 3000 x := fun x hx => (gp_b h (List.all_eq_true.mp h2 x hx)).b.mono (by decide)
theorem tq3 : Tq 3 1 1 qd3 := ⟨ev_quads3, tq_b (p := 3) (by decide) (by decide +kernel), by decide, by decide, by decide +kernel, by decide +kernel⟩
theorem tq5 : Tq 5 0 2 qd5 := ⟨ev_quads5, tq_b (p := 5) (by decide) (by decide +kernel), by decide, by decide, by decide +kernel, by decide +kernel⟩
theorem tq7 : Tq 7 2 3 qd7 := ⟨ev_quads7, tq_b (p := 7) (by decide) (by decide +kernel), by decide, by decide, by decide +kernel, by decide +kernel⟩
theorem tq11 : Tq 11 1 3 qd11 := ⟨ev_quads11, tq_b (p := 11) (by decide) (by decide +kernel), by decide, by decide, by decide +kernel, by decide +kernel⟩
theorem tq13 : Tq 13 0 5 qd13 := ⟨ev_quads13, tq_b (p := 13) (by decide) (by decide +kernel), by decide, by decide, by decide +kernel, by decide +kernel⟩
theorem tq_ex {q e f : Int} (hq : Five q) (M : Mk q e f) : ∃ xs, Tq q e f xs := by
  have m := M.m
  rcases hq with rfl | rfl | rfl | rfl | rfl
  · obtain ⟨rfl, rfl⟩ := two_of (marks3.symm.trans m); exact ⟨_, tq3⟩
  · obtain ⟨rfl, rfl⟩ := two_of (marks5.symm.trans m); exact ⟨_, tq5⟩
  · obtain ⟨rfl, rfl⟩ := two_of (marks7.symm.trans m); exact ⟨_, tq7⟩
  · obtain ⟨rfl, rfl⟩ := two_of (marks11.symm.trans m); exact ⟨_, tq11⟩
  · obtain ⟨rfl, rfl⟩ := two_of (marks13.symm.trans m); exact ⟨_, tq13⟩
theorem veq_ln (l k : Int × Int) : vEq (lnD l) (lnD k) = .ret (.bool (decide (l = k))) := by
  obtain ⟨a, b⟩ := l
  obtain ⟨c, d⟩ := k
  rw [vEq_eqv rfl rfl rfl rfl]
  simp only [PyData.eqv, PyData.eqvAll]
  by_cases h1 : a = c <;> by_cases h2 : b = d <;> simp [h1, h2]
theorem vne_ln (l k : Int × Int) : vNe (lnD l) (lnD k) = .ret (.bool (!decide (l = k))) := by
  obtain ⟨a, b⟩ := l
  obtain ⟨c, d⟩ := k
  rw [vNe_eqv rfl rfl rfl rfl]
  simp only [PyData.eqv, PyData.eqvAll]
  by_cases h1 : a = c <;> by_cases h2 : b = d <;> simp [h1, h2]
open Classical in
theorem ev_fol {q e f : Int} {l : Int × Int} (hq : Five q) (M : Mk q e f) (hl : IsL q l) : ∃ w : Qt, m_first_of_line [.int q, lnD l] = .ret w.D ∧ nsq w = 4 * q ∧ fst w = w ∧ Hl q w ∧ lineT q (tbl q e f w) = l ∧ Bq 5 w := by
  obtain ⟨xs, T⟩ := tq_ex hq M
  obtain ⟨zs, ez, hz, hzl⟩ := ev_firstsS T.ev T.b T.n T.l
  have hmem : ∀ z, z ∈ zs ↔ z ∈ xs.map fst := fun z => (hz z).trans ⟨fun ⟨x, hx, h⟩ => List.mem_map.mpr ⟨x, hx, h.symm⟩, fun h => by obtain ⟨x, hx, e⟩ := List.mem_map.mp h; exact ⟨x, hx, e.symm⟩⟩
  have ok : ∀ z ∈ zs, Gp q z ∧ fst z = z ∧ Hl q z := fun z h => by
    have := List.all_eq_true.mp T.w z ((hmem z).mp h)
    unfold okW at this
    rw [Bool.and_eq_true, Bool.and_eq_true, decide_eq_true_iff, decide_eq_true_iff] at this
    obtain ⟨⟨h1, h2⟩, h3⟩ := this
    have G := gp_b hq.le.2 h1
    exact ⟨G, h2, G.ok, by rw [G.n]; exact Int.mul_emod_left _ _, h3⟩
  have line : ∀ z ∈ zs, (parB q (tbl q e f z) l = true ↔ lineT q (tbl q e f z) = l) := fun z h => by
    obtain ⟨_, _, H⟩ := ok z h
    obtain ⟨m, n, R⟩ := H.r1 hq M
    exact r1_par hq (lineT_isl hq) hl R
  have hf := List.all_eq_true.mp T.f l (mem_allL hl)
  unfold finW at hf
  cases hfd : (xs.map fst).find? fun w => parB q (tbl q e f w) l with
  | none => rw [hfd] at hf; cases hf
  | some w =>
    rw [hfd] at hf
    have hwm := List.mem_of_find?_eq_some hfd
    have hwp : parB q (tbl q e f w) l = true := List.find?_some (p := fun w => parB q (tbl q e f w) l) hfd
    have hwz := (hmem w).mpr hwm
    obtain ⟨G, hw, H⟩ := ok w hwz
    have hwl := (line w hwz).mp hwp
    have only : ∀ z ∈ zs, lineT q (tbl q e f z) = l → z = w := fun z h hl' => by
      have := List.all_eq_true.mp hf z ((hmem z).mp h)
      rw [(line z h).mpr hl'] at this
      simpa using this
    refine ⟨w, ?_, G.n, hw, H, hwl, G.b⟩
    have e1 : m_first_of_line [.int q, lnD l] = (S_first_of_line [.val (.int q), .val (lnD l), .no]).bind outD := rfl
    have q13 := hq.le
    obtain ⟨p, hp⟩ : ∃ p : Fs.D → Bool, ∀ z : Qt, p z.D = decide (lineT q (tbl q e f z) = l) := ⟨fun d => decide (∃ z : Qt, d = z.D ∧ lineT q (tbl q e f z) = l), fun z => decide_eq_decide.mpr ⟨fun ⟨y, h1, h2⟩ => by rw [D_inj h1]; exact h2, fun h => ⟨z, rfl, h⟩⟩⟩
    have step : ∀ z ∈ zs, dTru (dOp vEq (dCallN 2 m_line_by (dCons (dVar 0) (dCons (dVar 2) dNil))) (dPeek 1)) [.val (.int q), .val (lnD l), .val z.D] = .ret (p z.D) := fun z hz' => by
      obtain ⟨G, _, _⟩ := ok z hz'
      have c1 := (call2 m_line_by (env := [.val (.int q), .val (lnD l), .val z.D]) (f := dVar 0) (f2 := dVar 2) (d := .int q) (d2 := z.D) rfl rfl).trans (ev_lineby hq M (G.b.mono (by decide)) G.ok)
      have c2 := (op2 (g := vEq) c1 (f2 := dPeek 1) (d2 := lnD l) rfl).trans (veq_ln _ _)
      rw [hp]
      exact tru_b c2
    have hlc := lcGo_filter (g := gN 2) (t := dTru (dOp vEq (dCallN 2 m_line_by (dCons (dVar 0) (dCons (dVar 2) dNil))) (dPeek 1))) (f := dVar 2) (env := [.val (.int q), .val (lnD l), .no]) p (items := zs.map D) (fun d hd => by
      obtain ⟨z, hz', rfl⟩ := List.mem_map.mp hd
      exact ⟨[.val (.int q), .val (lnD l), .val z.D], rfl, step z hz', rfl, rfl⟩)
    have hF : ∃ rest, (zs.map D).filter p = w.D :: rest := by
      have hm : w.D ∈ (zs.map D).filter p := List.mem_filter.mpr ⟨List.mem_map.mpr ⟨w, hwz, rfl⟩, by rw [hp]; exact decide_eq_true hwl⟩
      cases hc : (zs.map D).filter p with
      | nil => rw [hc] at hm; cases hm
      | cons d ds =>
        have hd : d ∈ (zs.map D).filter p := by rw [hc]; exact List.mem_cons_self
        obtain ⟨h1, h2⟩ := List.mem_filter.mp hd
        obtain ⟨z, hz', rfl⟩ := List.mem_map.mp h1
        rw [hp, decide_eq_true_iff] at h2
        rw [only z hz' h2]
        exact ⟨ds, rfl⟩
    obtain ⟨rest, hF⟩ := hF
    rw [hF] at hlc
    rw [e1]
    unfold S_first_of_line
    rw [r_seq, r_drop, call1 m_need_odd (d := .int q) rfl, M.n, Cm.ret_bind, Cm.ret_bind]
    simp only []
    have hgt : pGt q 97 = false := decide_eq_false (by omega)
    have t : dTru (dOp (vCmp pGt) (dPeek 0) (dCst D_MOST_LISTED)) [.val (.int q), .val (lnD l), .no] = .ret false := tru_b (by
      rw [op2 (d1 := .int q) (d2 := .int 97) rfl rfl, r_cmp, hgt])
    rw [r_seq, ifs_no t, Cm.ret_bind]
    simp only []
    rw [r_seq, r_drop, call2 m_need_line (d := .int q) (d2 := lnD l) rfl rfl, ev_isl hl, Cm.ret_bind, Cm.ret_bind]
    simp only []
    have hi : dItems (dCallN 1 m_firsts_by (dCons (dVar 0) dNil)) [.val (.int q), .val (lnD l), .no] = .ret (zs.map D) := by
      rw [r_items, call1 m_firsts_by (d := .int q) rfl, ez]
      rfl
    rw [r_ret, op2 (lc_run hi (by rw [List.length_map]; omega) hlc) (d2 := .int 0) rfl, r_ix_l, at0]
    rfl
end Fw

set_option linter.all false
set_option autoImplicit false
set_option maxRecDepth 100000
set_option exponentiation.threshold 2000
set_option maxHeartbeats 2000000
namespace Fw
open PySem Fs Fq Qt
/-! ## lines of products -/
theorem fl {q x y : Int} (h : x % q = y) : y % q = x % q := by rw [← h, cg_mod]
theorem det_ne {q e f : Int} {x : Qt} (hq : Five q) (M : Mk q e f) (h : nsq x % q ≠ 0) : ((tbl q e f x).A * (tbl q e f x).E - (tbl q e f x).B * (tbl q e f x).C) % q ≠ 0 := fun z =>
  h ((tbl_det M x).symm.trans ((zero_iff hq (four_ne hq)).mpr z))
theorem col_inv {q A B C E u v : Int} (hq : Five q) (hd : (A * E - B * C) % q ≠ 0) (h1 : (A * u + B * v) % q = 0) (h2 : (C * u + E * v) % q = 0) : u % q = 0 ∧ v % q = 0 := by
  have z := (Int.zero_emod q).symm
  have a := cg_sub (cg_mul (x := E) (y := E) rfl (h1.trans z)) (cg_mul (x := B) (y := B) rfl (h2.trans z))
  have b := cg_sub (cg_mul (x := A) (y := A) rfl (h2.trans z)) (cg_mul (x := C) (y := C) rfl (h1.trans z))
  rw [show E * (A * u + B * v) - B * (C * u + E * v) = (A * E - B * C) * u by grind, Int.mul_zero, Int.mul_zero, Int.sub_zero, Int.zero_emod] at a
  rw [show A * (C * u + E * v) - C * (A * u + B * v) = (A * E - B * C) * v by grind, Int.mul_zero, Int.mul_zero, Int.sub_zero, Int.zero_emod] at b
  exact ⟨(zero_iff hq hd).mp a, (zero_iff hq hd).mp b⟩
theorem row_inv {q A B C E u v : Int} (hq : Five q) (hd : (A * E - B * C) % q ≠ 0) (h1 : (u * A + v * C) % q = 0) (h2 : (u * B + v * E) % q = 0) : u % q = 0 ∧ v % q = 0 := by
  have z := (Int.zero_emod q).symm
  have a := cg_sub (cg_mul (x := E) (y := E) rfl (h1.trans z)) (cg_mul (x := C) (y := C) rfl (h2.trans z))
  have b := cg_sub (cg_mul (x := A) (y := A) rfl (h2.trans z)) (cg_mul (x := B) (y := B) rfl (h1.trans z))
  rw [show E * (u * A + v * C) - C * (u * B + v * E) = (A * E - B * C) * u by grind, Int.mul_zero, Int.mul_zero, Int.sub_zero, Int.zero_emod] at a
  rw [show A * (u * B + v * E) - B * (u * A + v * C) = (A * E - B * C) * v by grind, Int.mul_zero, Int.mul_zero, Int.sub_zero, Int.zero_emod] at b
  exact ⟨(zero_iff hq hd).mp a, (zero_iff hq hd).mp b⟩
theorem hl_r1 {q e f m n : Int} {x : Qt} {l : Int × Int} (hq : Five q) (M : Mk q e f) (hx : x.Ok) (hl : IsL q l) (R : R1 q (tbl q e f x) l m n) : Hl q x ∧ lineT q (tbl q e f x) = l := by
  refine ⟨⟨hx, ?_, fun z => ?_⟩, r1_line hq hl (rg_of M x) R⟩
  · have h := cg_sub (cg_mul R.a R.e) (cg_mul R.b R.c)
    rw [show m * l.1 * (n * l.2) - n * l.1 * (m * l.2) = 0 by grind, Int.zero_emod] at h
    rw [← tbl_det M x]
    exact (zero_iff hq (four_ne hq)).mpr h
  · have t := zq_tbl (e := e) (f := f) z
    obtain ⟨a, b, c, d, zz⟩ := R
    rw [t] at a b c d
    simp only [Int.zero_emod] at a b c d
    rcases isl_ne hq hl with h | ⟨_, h⟩
    · rw [Int.mul_comm] at a b
      exact zz.elim (fun k => k ((zero_iff hq h).mp a.symm)) fun k => k ((zero_iff hq h).mp b.symm)
    · rw [Int.mul_comm] at c d
      exact zz.elim (fun k => k ((zero_iff hq h).mp c.symm)) fun k => k ((zero_iff hq h).mp d.symm)
theorem isl_nz {q : Int} {l : Int × Int} (hq : Five q) (hl : IsL q l) : ¬ (l.1 % q = 0 ∧ l.2 % q = 0) := fun ⟨h1, h2⟩ => (isl_ne hq hl).elim (fun h => h h1) fun h => h.2 h2
theorem led_nz {q e f : Int} {y : Qt} {l : Int × Int} (hq : Five q) (M : Mk q e f) (hy : nsq y % q ≠ 0) (hl : IsL q l) : ((tbl q e f y).A * l.1 + (tbl q e f y).B * l.2) % q ≠ 0 ∨ ((tbl q e f y).C * l.1 + (tbl q e f y).E * l.2) % q ≠ 0 := by
  refine Classical.byContradiction fun h => isl_nz hq hl (col_inv hq (det_ne hq M hy) (Classical.byContradiction fun h1 => h (.inl h1)) (Classical.byContradiction fun h1 => h (.inr h1)))
/-- led by what is multiplied from the left -/
theorem line_left {q e f m n : Int} {x y : Qt} {l : Int × Int} (hq : Five q) (M : Mk q e f) (hx : x.Ok) (hy : y.Ok) (hn : nsq y % q ≠ 0) (hl : IsL q l) (R : R1 q (tbl q e f x) l m n) : Hl q (mul y x) ∧ lineT q (tbl q e f (mul y x)) = led q e f y l := by
  obtain ⟨j, hj, e1, e2⟩ := ll_form hq (led_nz hq M hn hl)
  obtain ⟨k1, k2, k3, k4⟩ := tbl_mul M hy hx
  have hk : IsL q (led q e f y l) := led_line hq
  unfold led at hk ⊢
  have b1 := inv_back hq hj e1
  have b2 := inv_back hq hj e2
  have hi := inv_ne hq hj
  generalize ll q ((tbl q e f y).A * l.1 + (tbl q e f y).B * l.2) ((tbl q e f y).C * l.1 + (tbl q e f y).E * l.2) = k at *
  generalize invq q j = i at *
  refine hl_r1 (m := i * m) (n := i * n) hq M (ok_mul hy hx) hk ⟨?_, ?_, ?_, ?_, R.z.imp (fun h => five_mul hq hi h) fun h => five_mul hq hi h⟩
  · rw [fl k1, cg_add (cg_mul (x := (tbl q e f y).A) rfl R.a) (cg_mul (x := (tbl q e f y).B) rfl R.c), show i * m * k.1 = m * (i * k.1) by grind, ← cg_mul (x := m) rfl b1]
    congr 1; grind
  · rw [fl k2, cg_add (cg_mul (x := (tbl q e f y).A) rfl R.b) (cg_mul (x := (tbl q e f y).B) rfl R.e), show i * n * k.1 = n * (i * k.1) by grind, ← cg_mul (x := n) rfl b1]
    congr 1; grind
  · rw [fl k3, cg_add (cg_mul (x := (tbl q e f y).C) rfl R.a) (cg_mul (x := (tbl q e f y).E) rfl R.c), show i * m * k.2 = m * (i * k.2) by grind, ← cg_mul (x := m) rfl b2]
    congr 1; grind
  · rw [fl k4, cg_add (cg_mul (x := (tbl q e f y).C) rfl R.b) (cg_mul (x := (tbl q e f y).E) rfl R.e), show i * n * k.2 = n * (i * k.2) by grind, ← cg_mul (x := n) rfl b2]
    congr 1; grind
theorem line_right {q e f m n : Int} {x y : Qt} {l : Int × Int} (hq : Five q) (M : Mk q e f) (hx : x.Ok) (hy : y.Ok) (hn : nsq y % q ≠ 0) (hl : IsL q l) (R : R1 q (tbl q e f x) l m n) : Hl q (mul x y) ∧ lineT q (tbl q e f (mul x y)) = l := by
  obtain ⟨k1, k2, k3, k4⟩ := tbl_mul M hx hy
  refine hl_r1 (m := m * (tbl q e f y).A + n * (tbl q e f y).C) (n := m * (tbl q e f y).B + n * (tbl q e f y).E) hq M (ok_mul hx hy) hl ⟨?_, ?_, ?_, ?_, ?_⟩
  · rw [fl k1, cg_add (cg_mul R.a (rfl : (tbl q e f y).A % q = _)) (cg_mul R.b (rfl : (tbl q e f y).C % q = _))]
    congr 1; grind
  · rw [fl k2, cg_add (cg_mul R.a (rfl : (tbl q e f y).B % q = _)) (cg_mul R.b (rfl : (tbl q e f y).E % q = _))]
    congr 1; grind
  · rw [fl k3, cg_add (cg_mul R.c (rfl : (tbl q e f y).A % q = _)) (cg_mul R.e (rfl : (tbl q e f y).C % q = _))]
    congr 1; grind
  · rw [fl k4, cg_add (cg_mul R.c (rfl : (tbl q e f y).B % q = _)) (cg_mul R.e (rfl : (tbl q e f y).E % q = _))]
    congr 1; grind
  · refine Classical.byContradiction fun h => ?_
    obtain ⟨h1, h2⟩ := row_inv hq (det_ne hq M hn) (Classical.byContradiction fun h1 => h (.inl h1)) (Classical.byContradiction fun h1 => h (.inr h1))
    exact R.z.elim (fun k => k h1) fun k => k h2
theorem line_both {q e f m n m2 n2 : Int} {x y : Qt} {l k : Int × Int} (hq : Five q) (M : Mk q e f) (hx : x.Ok) (hy : y.Ok) (hl : IsL q l) (R : R1 q (tbl q e f x) l m n) (S : R1 q (tbl q e f y) k m2 n2) : Zq q (mul x y) ∨ (Hl q (mul x y) ∧ lineT q (tbl q e f (mul x y)) = l) := by
  obtain ⟨k1, k2, k3, k4⟩ := tbl_mul M hx hy
  have a : (tbl q e f (mul x y)).A % q = (m * k.1 + n * k.2) * m2 * l.1 % q := by
    rw [fl k1, cg_add (cg_mul R.a S.a) (cg_mul R.b S.c)]
    congr 1; grind
  have b : (tbl q e f (mul x y)).B % q = (m * k.1 + n * k.2) * n2 * l.1 % q := by
    rw [fl k2, cg_add (cg_mul R.a S.b) (cg_mul R.b S.e)]
    congr 1; grind
  have c : (tbl q e f (mul x y)).C % q = (m * k.1 + n * k.2) * m2 * l.2 % q := by
    rw [fl k3, cg_add (cg_mul R.c S.a) (cg_mul R.e S.c)]
    congr 1; grind
  have d : (tbl q e f (mul x y)).E % q = (m * k.1 + n * k.2) * n2 * l.2 % q := by
    rw [fl k4, cg_add (cg_mul R.c S.b) (cg_mul R.e S.e)]
    congr 1; grind
  by_cases hs : (m * k.1 + n * k.2) % q = 0
  · left
    have z : ∀ u v : Int, (m * k.1 + n * k.2) * u * v % q = 0 := fun u v => by rw [Int.mul_assoc, Int.mul_emod, hs, Int.zero_mul, Int.zero_emod]
    have g := rg_of M (mul x y)
    exact tbl_zero M (rg0 g.a (a.trans (z _ _))) (rg0 g.b (b.trans (z _ _))) (rg0 g.c (c.trans (z _ _))) (rg0 g.e (d.trans (z _ _)))
  · exact .inr (hl_r1 hq M (ok_mul hx hy) hl ⟨a, b, c, d, S.z.imp (fun h => five_mul hq hs h) fun h => five_mul hq hs h⟩)
theorem hf_neg {q n : Int} (h3 : 3 ≤ q) (ho : q % 2 = 1) : hf q (-n) = (-hf q n) % q := by
  have hr := hf_rng (n := -n) h3 ho
  rw [← Int.emod_eq_of_lt hr.1 hr.2]
  refine can2 ho ?_
  rw [hf_two h3 ho, show 2 * -hf q n = 0 - 2 * hf q n by omega, cg_sub (x := 0) rfl (hf_two (n := n) h3 ho)]
  congr 1; omega
theorem tbl_conj {q e f : Int} (M : Mk q e f) (x : Qt) : tbl q e f (conj x) = ⟨(tbl q e f x).E, (-(tbl q e f x).B) % q, (-(tbl q e f x).C) % q, (tbl q e f x).A⟩ := by
  have g := M.g
  have o := M.o
  have h1 : (conj x).a + (conj x).c * e - (conj x).d * f = x.a - x.c * e + x.d * f := by simp only [conj]; grind
  have h2 : (conj x).c * f + (conj x).d * e - (conj x).b = -(x.c * f + x.d * e - x.b) := by simp only [conj]; grind
  have h3 : (conj x).b + (conj x).c * f + (conj x).d * e = -(x.b + x.c * f + x.d * e) := by simp only [conj]; grind
  have h4 : (conj x).a - (conj x).c * e + (conj x).d * f = x.a + x.c * e - x.d * f := by simp only [conj]; grind
  unfold tbl
  rw [h1, h2, h3, h4, hf_neg g o, hf_neg g o]
theorem line_same {q e f m n m2 n2 : Int} {x y : Qt} {l k : Int × Int} (hq : Five q) (M : Mk q e f) (hx : x.Ok) (hy : y.Ok) (hl : IsL q l) (hk : IsL q k) (R : R1 q (tbl q e f x) l m n) (S : R1 q (tbl q e f y) k m2 n2) : Zq q (mul (conj x) y) ↔ l = k := by
  obtain ⟨k1, k2, k3, k4⟩ := tbl_mul M (ok_conj hx) hy
  rw [tbl_conj M x] at k1 k2 k3 k4
  simp only [] at k1 k2 k3 k4
  have ng : ∀ {u v : Int}, u % q = v % q → (-u) % q % q = (-v) % q := fun h => by
    rw [cg_mod, ← Int.zero_sub, ← Int.zero_sub, cg_sub (x := 0) rfl h]
  have a : (tbl q e f (mul (conj x) y)).A % q = n * m2 * -(l.1 * k.2 - l.2 * k.1) % q := by
    rw [fl k1, cg_add (cg_mul R.e S.a) (cg_mul (ng R.b) S.c)]
    congr 1; grind
  have b : (tbl q e f (mul (conj x) y)).B % q = n * n2 * -(l.1 * k.2 - l.2 * k.1) % q := by
    rw [fl k2, cg_add (cg_mul R.e S.b) (cg_mul (ng R.b) S.e)]
    congr 1; grind
  have c : (tbl q e f (mul (conj x) y)).C % q = m * m2 * (l.1 * k.2 - l.2 * k.1) % q := by
    rw [fl k3, cg_add (cg_mul (ng R.c) S.a) (cg_mul R.a S.c)]
    congr 1; grind
  have d : (tbl q e f (mul (conj x) y)).E % q = m * n2 * (l.1 * k.2 - l.2 * k.1) % q := by
    rw [fl k4, cg_add (cg_mul (ng R.c) S.b) (cg_mul R.a S.e)]
    congr 1; grind
  constructor
  · intro z
    rw [zq_tbl z] at a b c d
    simp only [Int.zero_emod] at a b c d
    refine isl_cross hq hl hk ?_
    have neg0 : ∀ {u : Int}, (-u) % q = 0 → u % q = 0 := fun {u} h => by
      have := cg_sub (x := 0) (y := 0) (q := q) rfl (h.trans (Int.zero_emod q).symm)
      rw [show (0 : Int) - -u = u by omega] at this
      simpa using this
    rcases R.z with r | r <;> rcases S.z with s | s
    · exact (zero_iff hq (five_mul hq r s)).mp c.symm
    · exact (zero_iff hq (five_mul hq r s)).mp d.symm
    · exact neg0 ((zero_iff hq (five_mul hq r s)).mp a.symm)
    · exact neg0 ((zero_iff hq (five_mul hq r s)).mp b.symm)
  · rintro rfl
    have g := rg_of M (mul (conj x) y)
    have z : l.1 * l.2 - l.2 * l.1 = 0 := by grind
    rw [z] at a b c d
    simp only [Int.neg_zero, Int.mul_zero, Int.zero_emod] at a b c d
    exact tbl_zero M (rg0 g.a a) (rg0 g.b b) (rg0 g.c c) (rg0 g.e d)
theorem smul_inj {q : Int} (h : q ≠ 0) {x y : Qt} (e : smul q x = smul q y) : x = y := by
  obtain ⟨a, b, c, d⟩ := x
  obtain ⟨a', b', c', d'⟩ := y
  unfold smul at e
  injection e with e1 e2 e3 e4
  simp only at e1 e2 e3 e4
  rw [Int.eq_of_mul_eq_mul_left h e1, Int.eq_of_mul_eq_mul_left h e2, Int.eq_of_mul_eq_mul_left h e3, Int.eq_of_mul_eq_mul_left h e4]
/-- a first of this line divides it -/
theorem first_div {q e f m n m2 n2 : Int} {x w : Qt} {l : Int × Int} (hq : Five q) (M : Mk q e f) (hx : x.Ok) (hw : w.Ok) (hl : IsL q l) (R : R1 q (tbl q e f x) l m n) (S : R1 q (tbl q e f w) l m2 n2) (hn : nsq w = 4 * q) : ∃ s : Qt, s.Ok ∧ x = mul w s := by
  obtain ⟨y, hy, e1⟩ := (zq_dv hq (ok_mul (ok_conj hw) hx)).mp ((line_same hq M hw hx hl hl S R).mpr rfl)
  refine ⟨y, hy, smul_inj (q := q) hq.ne ?_⟩
  rw [← mul_smul q hw hy, ← e1, ← mul_assoc hw (ok_conj hw) hx, ← pQ_conj hw hn]
  exact (p_mul q hx).symm
theorem led_then {q e f : Int} {x u : Qt} {l : Int × Int} (hq : Five q) (M : Mk q e f) (hx : x.Ok) (hu : u.Ok) (hn : nsq u % q ≠ 0) (hl : IsL q l) : led q e f (mul x u) l = led q e f x (led q e f u l) := by
  obtain ⟨m, hm, e1, e2⟩ := ll_form hq (led_nz hq M hn hl)
  obtain ⟨k1, k2, k3, k4⟩ := tbl_mul M hx hu
  rw [show led q e f x (led q e f u l) = ll q ((tbl q e f x).A * (led q e f u l).1 + (tbl q e f x).B * (led q e f u l).2) ((tbl q e f x).C * (led q e f u l).1 + (tbl q e f x).E * (led q e f u l).2) from rfl]
  unfold led
  rw [← ll_smul (c0 := (tbl q e f (mul x u)).A * l.1 + (tbl q e f (mul x u)).B * l.2) hq hm]
  generalize ll q ((tbl q e f u).A * l.1 + (tbl q e f u).B * l.2) ((tbl q e f u).C * l.1 + (tbl q e f u).E * l.2) = l' at *
  generalize tbl q e f u = t at *
  generalize tbl q e f (mul x u) = r at *
  generalize tbl q e f x = s at *
  refine ll_cg hq ?_ ?_
  · have a := cg_add (cg_mul (x := s.A) (y := s.A) rfl e1) (cg_mul (x := s.B) (y := s.B) rfl e2)
    have b := cg_mul (x := m) (y := m) rfl (cg_add (cg_mul (fl k1) (rfl : l.1 % q = l.1 % q)) (cg_mul (fl k2) (rfl : l.2 % q = l.2 % q)))
    rw [a, b]
    congr 1
    clear a b k1 k2 k3 k4 e1 e2; grind
  · have a := cg_add (cg_mul (x := s.C) (y := s.C) rfl e1) (cg_mul (x := s.E) (y := s.E) rfl e2)
    have b := cg_mul (x := m) (y := m) rfl (cg_add (cg_mul (fl k3) (rfl : l.1 % q = l.1 % q)) (cg_mul (fl k4) (rfl : l.2 % q = l.2 % q)))
    rw [a, b]
    congr 1
    clear a b k1 k2 k3 k4 e1 e2; grind
end Fw

set_option linter.all false
set_option autoImplicit false
set_option maxRecDepth 100000
set_option exponentiation.threshold 2000
set_option maxHeartbeats 2000000
namespace Fw
open PySem Fs Fq Qt
theorem ev_take (n : Int) (h : 0 < n) (h2 : n.natAbs.log2 < 9000) : m_Ltake [drwT, .int n] = .ask n.toNat fun r => .ret (.int (r : Int)) := if_pos ⟨rfl, h, h2⟩
theorem take_all {n : Int} {P : D → Prop} (h : 0 < n) (h2 : n.natAbs.log2 < 9000) (k : ∀ i : Int, 0 ≤ i → i < n → P (.int i)) : (m_Ltake [drwT, .int n]).AllS P := by
  rw [ev_take n h h2]
  exact ⟨fun r hr => k r (by omega) (by omega)⟩
theorem pick_all {ds : List D} {P : D → Prop} (h : 0 < ds.length) (h2 : ds.length.log2 < 9000) (k : ∀ d ∈ ds, P d) : (m_Lpick [drwT, .list ds]).AllS P := by
  have e : m_Lpick [drwT, .list ds] = (m_Ltake [drwT, .int ds.length]).bind fun y => vIx (.list ds) y := by simp [m_Lpick, S_Lpick]
  rw [e, Cm.alls_bind]
  refine take_all (by omega) (by simpa using h2) fun i h0 h1 => ?_
  have hi : i.toNat < ds.length := by omega
  have : L2.atI ds i = some ds[i.toNat] := by
    have := at_nat ds i.toNat _ (List.getElem?_eq_getElem hi)
    rwa [Int.toNat_of_nonneg h0] at this
  rw [r_ix_l, this]
  exact ⟨k _ (List.getElem_mem hi)⟩
structure Gq (a b c d : Int) : Prop where
  la : -9 ≤ a ∧ a ≤ 9
  lb : -9 ≤ b ∧ b ≤ 9
  lc : -9 ≤ c ∧ c ≤ 9
  ld : -9 ≤ d ∧ d ≤ 9
  hb : (b - a) % 2 = 0
  hc : (c - a) % 2 = 0
  hd : (d - a) % 2 = 0
theorem bd9 {a : Int} (h : -9 ≤ a ∧ a ≤ 9) : Bd 50 a := ⟨by omega⟩
theorem Gq.Qd {a b c d : Int} (G : Gq a b c d) : Qd a b c d := ⟨(bd9 G.la).mono (by decide), (bd9 G.lb).mono (by decide), (bd9 G.lc).mono (by decide), (bd9 G.ld).mono (by decide), G.hb, G.hc, G.hd⟩
theorem quad_all : (m_Lquad [drwT]).AllS fun x => ∃ a b c d, x = q4 a b c d ∧ Gq a b c d := by
  show ((S_Lquad [.val drwT, .no, .no]).bind outD).AllS _
  rw [Cm.alls_bind]
  unfold S_Lquad
  refine seq_all (fun e => ∃ k : Int, 0 ≤ k ∧ k < 2 ∧ e = [.val drwT, .val (.int k), .no]) (set_all ?_) fun e ⟨k, k0, k2, he⟩ => ?_
  · rw [call2 m_Ltake (d := drwT) (d2 := .int 2) rfl rfl]
    exact take_all (by decide) (by decide) fun i h0 h1 => ⟨i, h0, h1, rfl⟩
  · subst he
    rw [r_ret, Cm.alls_bind, r_call, Cm.alls_bind, r_cons, Cm.alls_bind, r_onlyL, Cm.alls_bind, r_lc, Cm.alls_bind]
    show Cm.AllS _ (Cm.ret (rng 0 4))
    rw [Cm.alls_ret, if_pos (by decide), Cm.alls_bind]
    have key : (lcGo (gN 2) dYes (dOp vAdd (dOp vMul (dCst (.int 2)) (dOp vSub (dCallN 2 m_Ltake (dCons (dVar 0) (dCons (dCst (.int 9)) dNil))) (dCst (.int 4)))) (dPeek 1)) (rng 0 4) [.val drwT, .val (.int k), .no]).AllS fun ys => ys.length = (rng 0 4).length ∧ ∀ y ∈ ys, ∃ i : Int, 0 ≤ i ∧ i < 9 ∧ y = .int (2 * (i - 4) + k) := by
      refine lcGo_each _ fun d hd => ⟨_, rfl, rfl, ?_⟩
      rw [r_op, Cm.alls_bind, r_op, r_cst, Cm.ret_bind, Cm.alls_bind, r_op, Cm.alls_bind, call2 m_Ltake (d := drwT) (d2 := .int 9) rfl rfl]
      refine take_all (by decide) (by decide) fun i h0 h1 => ?_
      haveI : Bd 10 i := ⟨by omega⟩
      simp [vMul_a]
      exact ⟨i, h0, h1, rfl⟩
    refine key.mono fun ys ⟨hl, hy⟩ => ?_
    match ys, hl with
    | [y1, y2, y3, y4], _ =>
      obtain ⟨i1, _, _, rfl⟩ := hy y1 (by simp)
      obtain ⟨i2, _, _, rfl⟩ := hy y2 (by simp)
      obtain ⟨i3, _, _, rfl⟩ := hy y3 (by simp)
      obtain ⟨i4, _, _, rfl⟩ := hy y4 (by simp)
      exact ⟨_, _, _, _, rfl, ⟨by omega, by omega⟩, ⟨by omega, by omega⟩, ⟨by omega, by omega⟩, ⟨by omega, by omega⟩, by omega, by omega, by omega⟩
theorem some_all : (m_Lsome_quad [drwT]).AllS fun x => ∃ a b c d, x = q4 a b c d ∧ Gq a b c d := by
  show ((S_Lsome_quad [.val drwT, .no]).bind outD).AllS _
  rw [Cm.alls_bind]
  unfold S_Lsome_quad
  refine seq_all (fun e => ∃ a b c d, Gq a b c d ∧ e = [.val drwT, .val (q4 a b c d)]) ?_ ?_
  · refine set_all ?_
    rw [call1 m_Lquad (d := drwT) rfl]
    exact quad_all.mono fun x ⟨a, b, c, d, hx, G⟩ => ⟨a, b, c, d, G, by subst hx; rfl⟩
  · intro e he
    obtain ⟨a, b, c, d, G, he⟩ := he
    subst he
    have e0 : vNe (q4 a b c d) (q4 0 0 0 0) = .ret (.bool (!PyData.eqv (q4 a b c d) (q4 0 0 0 0))) := vNe_eqv (sh_q4 _ _ _ _) (sh_q4 _ _ _ _) rfl rfl
    simp [e0]
    split
    · exact ⟨a, b, c, d, rfl, G⟩
    · exact ⟨2, 2, 0, 0, rfl, by constructor <;> decide⟩
theorem par_all {i j : Nat} {f1 f2 : DE} {env : Fs.Env} {R : Fs.Env → Prop} (h : (f1 env).AllS fun d1 => (f2 env).AllS fun d2 => R ((env.set i (.val d1)).set j (.val d2))) : (dPar i j f1 f2 env).AllS fun o => ∃ e, o = .nx e ∧ R e := by
  rw [r_par, Cm.alls_bind]
  refine h.mono fun d1 h1 => ?_
  rw [Cm.alls_bind]
  exact h1.mono fun d2 h2 => ⟨_, rfl, h2⟩
def us0 : List Qt := [⟨-1, -1, -1, -1⟩, ⟨-1, -1, -1, 1⟩, ⟨-1, -1, 1, -1⟩, ⟨-1, -1, 1, 1⟩, ⟨-1, 1, -1, -1⟩, ⟨-1, 1, -1, 1⟩, ⟨-1, 1, 1, -1⟩, ⟨-1, 1, 1, 1⟩, ⟨1, -1, -1, -1⟩, ⟨1, -1, -1, 1⟩, ⟨1, -1, 1, -1⟩, ⟨1, -1, 1, 1⟩, ⟨1, 1, -1, -1⟩, ⟨1, 1, -1, 1⟩, ⟨1, 1, 1, -1⟩, ⟨1, 1, 1, 1⟩]
def us1 : List Qt := [⟨2, 0, 0, 0⟩, ⟨-2, 0, 0, 0⟩, ⟨0, 2, 0, 0⟩, ⟨0, -2, 0, 0⟩, ⟨0, 0, 2, 0⟩, ⟨0, 0, -2, 0⟩, ⟨0, 0, 0, 2⟩, ⟨0, 0, 0, -2⟩]
theorem units_s1 : dOnlyL (dLc (dItems (dCallN 1 m_Lrows (dCons (dOnlyL (dLstF (dCons (dUn vNeg (dCst (.int 1))) (dCons (dCst (.int 1)) dNil)))) dNil))) (gTp 4 (gsCons (gN 1) (gsCons (gN 2) (gsCons (gN 3) (gsCons (gN 4) gsNil))))) dYes (dTupF (dCons (dVar 1) (dCons (dVar 2) (dCons (dVar 3) (dCons (dVar 4) dNil))))) [1, 2, 3, 4]) [.no, .no, .no, .no, .no, .no, .no, .no, .no] = .ret (.list (us0.map D)) := by rfl
theorem units_s2 : dOnlyL (dLc (dItems (dCall cSumL (dCons (dOnlyL (dLc (dRng1 (dCons (dCst (.int 4)) dNil)) (gN 7) dYes (dOnlyL (dLstF (dCons (dTupF (dCons (dVar 7) (dCons (dCst (.int 2)) dNil))) (dCons (dTupF (dCons (dVar 7) (dCons (dUn vNeg (dCst (.int 2))) dNil))) dNil)))) [7])) (dCons (dOnlyL (dLstF dNil)) dNil)))) (gTp 2 (gsCons (gN 7) (gsCons (gN 8) gsNil))) dYes (dCall cTuple (dCons (dOnlyL (dLc (dRng1 (dCons (dCst (.int 4)) dNil)) (gN 6) dYes (dIf (dTru (dOp vEq (dPeek 7) (dPeek 6))) (dVar 8) (dCst (.int 0))) [6])) dNil)) [7, 8]) [.val (.list (us0.map D)), .no, .no, .no, .no, .no, .no, .no, .no] = .ret (.list (us1.map D)) := by rfl
theorem units_ex : ∃ us : List Qt, m_Lunits [] = .ret (.list (us.map D)) ∧ (∀ u, u ∈ us ↔ u ∈ U24) ∧ us.length = 24 := by
  obtain ⟨zs, e2, h2, h3, h4⟩ := sort_P (P := fun _ => True) (us0 ++ us1) (fun _ _ => trivial)
  refine ⟨zs, ?_, fun u => ?_, h4⟩
  · have e : m_Lunits [] = (S_Lunits [.no, .no, .no, .no, .no, .no, .no, .no, .no]).bind outD := rfl
    rw [e]
    unfold S_Lunits
    have s1 := units_s1
    rw [r_seq, set_nx s1, Cm.ret_bind]
    simp only []
    have s2 := units_s2
    have e0 : ([.no, .no, .no, .no, .no, .no, .no, .no, .no] : Fs.Env).set 0 (.val (.list (us0.map D))) = [.val (.list (us0.map D)), .no, .no, .no, .no, .no, .no, .no, .no] := rfl
    rw [e0, r_seq, set_nx s2, Cm.ret_bind]
    simp only []
    have ea : dOp vAdd (dPeek 0) (dPeek 5) [.val (.list (us0.map D)), .no, .no, .no, .no, .val (.list (us1.map D)), .no, .no, .no] = .ret (.list ((us0 ++ us1).map D)) := rfl
    have e1 : ([.val (.list (us0.map D)), .no, .no, .no, .no, .no, .no, .no, .no] : Fs.Env).set 5 (.val (.list (us1.map D))) = [.val (.list (us0.map D)), .no, .no, .no, .no, .val (.list (us1.map D)), .no, .no, .no] := rfl
    rw [e1, r_ret, r_call, r_cons, ea, Cm.ret_bind, r_nil, Cm.ret_bind, Cm.ret_bind]
    have e0 : ∀ ds : List D, cSortL [.list ds] = if SeqAt.shaped (.list ds) = true ∧ alikeB ds = true ∧ sortB ds = true then .ret (.list (ds.mergeSort leD)) else .bad := fun _ => rfl
    rw [e0, if_pos ⟨shaped_Ds _, alike_D _, sort_D _⟩, e2]
    rfl
  · rw [← h3]
    have k1 : ∀ u ∈ us0 ++ us1, u ∈ U24 := by decide
    have k2 : ∀ u ∈ U24, u ∈ us0 ++ us1 := by decide
    exact ⟨k1 u, k2 u⟩
theorem unit_all : (m_Lunit [drwT]).AllS fun x => ∃ u ∈ U24, x = u.D := by
  obtain ⟨us, e, h1, h2⟩ := units_ex
  have e0 : m_Lunit [drwT] = (S_Lunit [.val drwT]).bind outD := rfl
  rw [e0]
  unfold S_Lunit
  have eu : dCallN 0 m_Lunits dNil [.val drwT] = .ret (.list (us.map D)) := e
  rw [r_ret, Cm.alls_bind, Cm.alls_bind, call2 m_Lpick (f := dVar 0) (d := drwT) (d2 := .list (us.map D)) rfl eu]
  refine pick_all (by rw [List.length_map, h2]; decide) (by rw [List.length_map, h2]; decide) fun d hd => ?_
  obtain ⟨u, hu, rfl⟩ := List.mem_map.mp hd
  rw [Cm.alls_ret]
  show (Cm.ret u.D).AllS _
  rw [Cm.alls_ret]
  exact ⟨u, (h1 u).mp hu, rfl⟩
end Fw

set_option linter.all false
set_option autoImplicit false
set_option maxRecDepth 100000
set_option exponentiation.threshold 2000
set_option maxHeartbeats 2000000
namespace Fw
open PySem Fs Fq Qt
/-! ## draws: free quads, quads with a line -/
/-- parts at most a hundred -/
structure Lb (k : Nat) (x : Qt) : Prop where
  a : x.a.natAbs ≤ k
  b : x.b.natAbs ≤ k
  c : x.c.natAbs ≤ k
  d : x.d.natAbs ≤ k
theorem Lb.bq {k j : Nat} {x : Qt} (h : Lb k x) (hk : k < 2 ^ j) : Bq j x := bq_of hk ⟨h.a, h.b, h.c, h.d⟩
theorem Lb.sm {k : Nat} {x : Qt} (h : Lb k x) (hk : k < 500000) : Sm x := ⟨Nat.lt_of_le_of_lt h.a hk, Nat.lt_of_le_of_lt h.b hk, Nat.lt_of_le_of_lt h.c hk, Nat.lt_of_le_of_lt h.d hk⟩
theorem callN_all2 {g : List Fs.D → Cm Fs.D} {f1 f2 : DE} {env : Fs.Env} {d1 : Fs.D} {P : Fs.D → Prop} (h1 : f1 env = .ret d1) (h2 : (f2 env).AllS fun d2 => (g [d1, d2]).AllS P) : (dCallN 2 g (dCons f1 (dCons f2 dNil)) env).AllS P := by
  rw [r_callN, Cm.alls_bind, r_cons, h1, Cm.ret_bind, Cm.alls_bind, r_cons, Cm.alls_bind]
  exact h2.mono fun d2 h => by simpa using h
theorem asg_all {g : DTg} {f : DE} {env : Fs.Env} {R : Fs.Env → Prop} (h : (f env).AllS fun d => ∃ e, g d env = .ret e ∧ R e) : (dAsg f g env).AllS fun o => ∃ e, o = .nx e ∧ R e := by
  rw [r_asg, Cm.alls_bind]
  refine h.mono fun d ⟨e, h1, h2⟩ => ?_
  rw [h1, Cm.ret_bind, Cm.alls_ret]
  exact ⟨e, rfl, h2⟩
theorem ev_Lhl {q : Int} (hq : Five q) {x : Qt} (hb : Sm x) (hx : x.Ok) : m_Lhas_line [.int q, x.D] = .ret (.bool (decide (nsq x % q = 0) && !decide (Zq q x))) := by
  have q0 := five_pos hq
  have e : m_Lhas_line [.int q, x.D] = (S_Lhas_line [.val (.int q), .val x.D]).bind outD := rfl
  rw [e]
  unfold S_Lhas_line
  have c0 : dOp vNe (dPeek 1) (dTupF (dCons (dCst (.int 0)) (dCons (dCst (.int 0)) (dCons (dCst (.int 0)) (dCons (dCst (.int 0)) dNil))))) [.val (.int q), .val x.D] = .ret (.bool (!decide (x = Qt.zero))) := by
    rw [op2 (d1 := x.D) (d2 := Qt.zero.D) rfl rfl, vne_D]
  rw [r_ret, r_andV, c0, Cm.ret_bind]
  by_cases h0 : nsq x = 0
  · rw [zero_nsq h0, decide_eq_true rfl, decide_eq_true (zq_zero q), Bool.not_true, Bool.and_false]
    rfl
  · rw [decide_eq_false (nz_ne h0)]
    simp only [Bool.not_false, if_true]
    have c1 : dOp vEq (dOp vMod (dCall cInt (dCons (dCallN 1 m_Lsize (dCons (dVar 1) dNil)) dNil)) (dPeek 0)) (dCst (.int 0)) [.val (.int q), .val x.D] = .ret (.bool (decide (nsq x % q = 0))) := by
      have a1 := (call1 m_Lsize (env := [.val (.int q), .val x.D]) (f := dVar 1) (d := x.D) rfl).trans (ev_Lsize (hb.bq.mono (by decide)))
      have a2 : dCall cInt (dCons (dCallN 1 m_Lsize (dCons (dVar 1) dNil)) dNil) [.val (.int q), .val x.D] = .ret (.int (nsq x / 4)) := by
        rw [r_call, r_cons, a1]; rfl
      rw [op2 ((op2 a2 (d2 := .int q) rfl).trans (by rw [r_mod, if_pos q0])) (d2 := .int 0) rfl, r_eq_ii, size_z hq hx]
    have c2 : dOp vNe (dOp vMod (dCall cInt (dCons (dOp vIx (dCallN 1 m_Lcontent (dCons (dVar 1) dNil)) (dCst (.int 0))) dNil)) (dPeek 0)) (dCst (.int 0)) [.val (.int q), .val x.D] = .ret (.bool (!decide (Zq q x))) := by
      obtain ⟨r, er⟩ := ev_Lcontent hb h0
      have a1 := (call1 m_Lcontent (env := [.val (.int q), .val x.D]) (f := dVar 1) (d := x.D) rfl).trans er
      have a2 : dCall cInt (dCons (dOp vIx (dCallN 1 m_Lcontent (dCons (dVar 1) dNil)) (dCst (.int 0))) dNil) [.val (.int q), .val x.D] = .ret (.int (cont x)) := by
        rw [r_call, r_cons, op2 a1 (d2 := .int 0) rfl, r_ix_t, at0]; rfl
      rw [op2 ((op2 a2 (d2 := .int q) rfl).trans (by rw [r_mod, if_pos q0])) (d2 := .int 0) rfl, r_ne_ii, cont_zq hq hx h0]
    rw [r_andV, c1, Cm.ret_bind]
    cases decide (nsq x % q = 0) with
    | true => simp only [if_true, Bool.true_and]; rw [c2]; rfl
    | false => rfl
theorem prime_all : (m_Ltree_prime [drwT]).AllS fun x => ∃ q, x = .int q ∧ Five q := by
  have e0 : m_Ltree_prime [drwT] = (S_Ltree_prime [.val drwT]).bind outD := rfl
  rw [e0]
  unfold S_Ltree_prime
  rw [r_ret, Cm.alls_bind, Cm.alls_bind, call2 m_Lpick (f := dVar 0) (d := drwT) (d2 := .list [.int 3, .int 3, .int 3, .int 5, .int 5, .int 7, .int 11]) rfl rfl]
  refine pick_all (by decide) (by decide) fun d hd => ?_
  rw [Cm.alls_ret]
  show (Cm.ret d).AllS _
  rw [Cm.alls_ret]
  simp only [List.mem_cons, List.not_mem_nil, or_false] at hd
  rcases hd with rfl | rfl | rfl | rfl | rfl | rfl | rfl
  · exact ⟨_, rfl, .inl rfl⟩
  · exact ⟨_, rfl, .inl rfl⟩
  · exact ⟨_, rfl, .inl rfl⟩
  · exact ⟨_, rfl, .inr (.inl rfl)⟩
  · exact ⟨_, rfl, .inr (.inl rfl)⟩
  · exact ⟨_, rfl, .inr (.inr (.inl rfl))⟩
  · exact ⟨_, rfl, .inr (.inr (.inr (.inl rfl)))⟩
theorem free_all {q : Int} (hq : Five q) : (m_Lfree [drwT, .int q]).AllS fun x => ∃ w : Qt, x = w.D ∧ w.Ok ∧ Lb 9 w ∧ nsq w % q ≠ 0 := by
  have q0 := five_pos hq
  have e0 : m_Lfree [drwT, .int q] = (S_Lfree [.val drwT, .val (.int q), .no]).bind outD := rfl
  rw [e0, Cm.alls_bind]
  unfold S_Lfree
  refine seq_all (fun e => ∃ w : Qt, w.Ok ∧ Lb 9 w ∧ e = [.val drwT, .val (.int q), .val w.D]) (set_all ?_) ?_
  · rw [call1 m_Lsome_quad (d := drwT) rfl]
    exact some_all.mono fun x ⟨a, b, c, d, hx, G⟩ => ⟨⟨a, b, c, d⟩, ⟨G.hb, G.hc, G.hd⟩, ⟨by have := G.la; show a.natAbs ≤ 9; omega, by have := G.lb; show b.natAbs ≤ 9; omega, by have := G.lc; show c.natAbs ≤ 9; omega, by have := G.ld; show d.natAbs ≤ 9; omega⟩, by subst hx; rfl⟩
  · rintro _ ⟨w, hw, lw, rfl⟩
    have t : dTru (dOp vNe (dOp vMod (dCall cInt (dCons (dCallN 1 m_Lsize (dCons (dVar 2) dNil)) dNil)) (dPeek 1)) (dCst (.int 0))) [.val drwT, .val (.int q), .val w.D] = .ret (!decide (nsq w % q = 0)) := by
      have a1 := (call1 m_Lsize (env := [.val drwT, .val (.int q), .val w.D]) (f := dVar 2) (d := w.D) rfl).trans (ev_Lsize ((lw.bq (j := 4) (by decide)).mono (by decide)))
      have a2 : dCall cInt (dCons (dCallN 1 m_Lsize (dCons (dVar 2) dNil)) dNil) [.val drwT, .val (.int q), .val w.D] = .ret (.int (nsq w / 4)) := by
        rw [r_call, r_cons, a1]; rfl
      refine tru_b ?_
      rw [op2 ((op2 a2 (d2 := .int q) rfl).trans (by rw [r_mod, if_pos q0])) (d2 := .int 0) rfl, r_ne_ii, size_z hq hw]
    rw [r_ret, r_if, t, Cm.ret_bind]
    by_cases h : nsq w % q = 0
    · rw [decide_eq_true h]
      simp only [Bool.not_true, Bool.false_eq_true, if_false]
      rw [call1 m_Lunit (d := drwT) rfl, Cm.alls_bind]
      refine unit_all.mono fun x ⟨u, hu, hx⟩ => ?_
      subst hx
      refine (Cm.alls_ret _ _).mpr ((Cm.alls_ret _ _).mpr ⟨u, rfl, u_ok hu, ?_, ?_⟩)
      · have : ∀ u ∈ U24, u.a.natAbs ≤ 2 ∧ u.b.natAbs ≤ 2 ∧ u.c.natAbs ≤ 2 ∧ u.d.natAbs ≤ 2 := by decide +kernel
        obtain ⟨h1, h2, h3, h4⟩ := this u hu
        exact ⟨by omega, by omega, by omega, by omega⟩
      · rw [u_nsq u hu]; exact four_ne hq
    · rw [decide_eq_false h]
      exact (Cm.alls_ret _ _).mpr ((Cm.alls_ret _ _).mpr ⟨w, rfl, hw, lw, h⟩)
theorem lined_hl {q e f a b : Int} {l : Int × Int} (hq : Five q) (M : Mk q e f) (hl : IsL q l) (hb : b % q ≠ 0) :
    let w : Qt := ⟨2 * hf q (l.1 * a + l.2 * b), 2 * hf q (l.2 * a - l.1 * b), 2 * hf q (0 - e * (l.1 * a - l.2 * b) - f * (l.1 * b + l.2 * a)), 2 * hf q (f * (l.1 * a - l.2 * b) - e * (l.1 * b + l.2 * a))⟩
    Hl q w ∧ Lb 100 w := by
  intro w
  have g := M.g
  have o := M.o
  have hs := M.s
  have t := fun (n : Int) => hf_two (n := n) g o
  have r := fun (n : Int) => hf_rng (n := n) g o
  have q13 := hq.le
  have hw : w.Ok := ⟨by show (2 * _ - 2 * _) % 2 = 0; omega, by show (2 * _ - 2 * _) % 2 = 0; omega, by show (2 * _ - 2 * _) % 2 = 0; omega⟩
  refine ⟨(hl_r1 (e := e) (f := f) (m := a) (n := b) hq M hw hl ⟨can2 o ?_, can2 o ?_, can2 o ?_, can2 o ?_, .inr hb⟩).1, ⟨?_, ?_, ?_, ?_⟩⟩
  · show 2 * hf q (2 * hf q (l.1 * a + l.2 * b) + 2 * hf q (0 - e * (l.1 * a - l.2 * b) - f * (l.1 * b + l.2 * a)) * e - 2 * hf q (f * (l.1 * a - l.2 * b) - e * (l.1 * b + l.2 * a)) * f) % q = _
    rw [t, cg_sub (cg_add (t _) (cg_mul (t _) (rfl : e % q = e % q))) (cg_mul (t _) (rfl : f % q = f % q))]
    exact cg_ef hs (K := -(l.1 * a - l.2 * b)) (by clear t r g o hs hw w; grind)
  · show 2 * hf q (2 * hf q (0 - e * (l.1 * a - l.2 * b) - f * (l.1 * b + l.2 * a)) * f + 2 * hf q (f * (l.1 * a - l.2 * b) - e * (l.1 * b + l.2 * a)) * e - 2 * hf q (l.2 * a - l.1 * b)) % q = _
    rw [t, cg_sub (cg_add (cg_mul (t _) (rfl : f % q = f % q)) (cg_mul (t _) (rfl : e % q = e % q))) (t _)]
    exact cg_ef hs (K := -(l.1 * b + l.2 * a)) (by clear t r g o hs hw w; grind)
  · show 2 * hf q (2 * hf q (l.2 * a - l.1 * b) + 2 * hf q (0 - e * (l.1 * a - l.2 * b) - f * (l.1 * b + l.2 * a)) * f + 2 * hf q (f * (l.1 * a - l.2 * b) - e * (l.1 * b + l.2 * a)) * e) % q = _
    rw [t, cg_add (cg_add (t _) (cg_mul (t _) (rfl : f % q = f % q))) (cg_mul (t _) (rfl : e % q = e % q))]
    exact cg_ef hs (K := -(l.1 * b + l.2 * a)) (by clear t r g o hs hw w; grind)
  · show 2 * hf q (2 * hf q (l.1 * a + l.2 * b) - 2 * hf q (0 - e * (l.1 * a - l.2 * b) - f * (l.1 * b + l.2 * a)) * e + 2 * hf q (f * (l.1 * a - l.2 * b) - e * (l.1 * b + l.2 * a)) * f) % q = _
    rw [t, cg_add (cg_sub (t _) (cg_mul (t _) (rfl : e % q = e % q))) (cg_mul (t _) (rfl : f % q = f % q))]
    exact cg_ef hs (K := (l.1 * a - l.2 * b)) (by clear t r g o hs hw w; grind)
  · show (2 * hf q _).natAbs ≤ 100
    have := r (l.1 * a + l.2 * b); omega
  · show (2 * hf q _).natAbs ≤ 100
    have := r (l.2 * a - l.1 * b); omega
  · show (2 * hf q _).natAbs ≤ 100
    have := r (0 - e * (l.1 * a - l.2 * b) - f * (l.1 * b + l.2 * a)); omega
  · show (2 * hf q _).natAbs ≤ 100
    have := r (f * (l.1 * a - l.2 * b) - e * (l.1 * b + l.2 * a)); omega
end Fw

set_option linter.all false
set_option autoImplicit false
set_option maxRecDepth 100000
set_option exponentiation.threshold 2000
set_option maxHeartbeats 2000000
namespace Fw
open PySem Fs Fq Qt
/-! ## the law's quads with a line -/
abbrev lv (q : Int) (x2 x3 x4 x5 x6 x7 x8 x9 x10 x11 x12 x13 x14 x15 : Slot) : Fs.Env := [.val drwT, .val (.int q), x2, x3, x4, x5, x6, x7, x8, x9, x10, x11, x12, x13, x14, x15]
abbrev iv (i : Int) : Slot := .val (.int i)
def ptL (e f a b : Int) (l : Int × Int) : List Int := [l.1 * a + l.2 * b, l.2 * a - l.1 * b, 0 - e * (l.1 * a - l.2 * b) - f * (l.1 * b + l.2 * a), f * (l.1 * a - l.2 * b) - e * (l.1 * b + l.2 * a)]
abbrev LQ : DE := dCall cTuple (dCons (dOnlyL (dLc (dItems (dVar 12)) (gN 15) dYes (dOp vAdd (dOp vAdd (dOp vMul (dCst (.int 2)) (dCallN 2 m_Lhalf (dCons (dVar 1) (dCons (dVar 15) dNil)))) (dOp vMul (dPeek 13) (dPeek 1))) (dOp vMul (dOp vMul (dCst (.int 2)) (dPeek 1)) (dOp vSub (dCallN 2 m_Ltake (dCons (dVar 0) (dCons (dCst (.int 5)) dNil))) (dCst (.int 2))))) [15])) dNil)
theorem rngz (q : Int) {n : Int} (h3 : 3 ≤ q) (ho : q % 2 = 1) (hq : q ≤ 13) : Bd 10 (hf q n) := ⟨by have := hf_rng (n := n) h3 ho; omega⟩
theorem lq_all {q k : Int} (hq : Five q) (k0 : 0 ≤ k ∧ k < 2) {ps : List Int} (hl : ps.length = 4) (hb : ∀ p ∈ ps, Bd 2000 p) (x2 x3 x4 x5 x6 x7 x8 x9 x10 x11 x14 x15 : Slot) :
    (LQ (lv q x2 x3 x4 x5 x6 x7 x8 x9 x10 x11 (.val (.list (ps.map .int))) (iv k) x14 x15)).AllS fun d => ∃ w : Qt, d = w.D ∧ w.Ok ∧ Lb 100 w := by
  have q0 := five_pos hq
  have q13 := hq.le
  have o := five_odd hq
  unfold LQ
  rw [r_call, Cm.alls_bind, r_cons, Cm.alls_bind, r_onlyL, Cm.alls_bind, r_lc, Cm.alls_bind]
  show Cm.AllS _ (Cm.ret (ps.map PyData.int))
  rw [Cm.alls_ret, if_pos (by rw [List.length_map, hl]; decide), Cm.alls_bind]
  have key : (lcGo (gN 15) dYes (dOp vAdd (dOp vAdd (dOp vMul (dCst (.int 2)) (dCallN 2 m_Lhalf (dCons (dVar 1) (dCons (dVar 15) dNil)))) (dOp vMul (dPeek 13) (dPeek 1))) (dOp vMul (dOp vMul (dCst (.int 2)) (dPeek 1)) (dOp vSub (dCallN 2 m_Ltake (dCons (dVar 0) (dCons (dCst (.int 5)) dNil))) (dCst (.int 2))))) (ps.map .int) (lv q x2 x3 x4 x5 x6 x7 x8 x9 x10 x11 (.val (.list (ps.map .int))) (iv k) x14 .no)).AllS fun ys => ys.length = (ps.map PyData.int).length ∧ ∀ y ∈ ys, ∃ i : Int, y = .int i ∧ i.natAbs ≤ 100 ∧ (i - k * q) % 2 = 0 := by
    refine lcGo_each _ fun d hd => ?_
    obtain ⟨p, hp, rfl⟩ := List.mem_map.mp hd
    haveI := hb p hp
    refine ⟨lv q x2 x3 x4 x5 x6 x7 x8 x9 x10 x11 (.val (.list (ps.map .int))) (iv k) x14 (iv p), rfl, rfl, ?_⟩
    have c1 := (call2 m_Lhalf (env := lv q x2 x3 x4 x5 x6 x7 x8 x9 x10 x11 (.val (.list (ps.map .int))) (iv k) x14 (iv p)) (f := dVar 1) (f2 := dVar 15) (d := .int q) (d2 := .int p) rfl rfl).trans (ev_Lhalf hq)
    have hr := hf_rng (n := p) q13.1 o
    haveI := rngz q (n := p) q13.1 o q13.2
    haveI : Bd 10 q := ⟨by omega⟩
    haveI : Bd 10 k := ⟨by omega⟩
    haveI : Bd 10 (2 : Int) := ⟨by decide⟩
    have a1 : dOp vAdd (dOp vMul (dCst (.int 2)) (dCallN 2 m_Lhalf (dCons (dVar 1) (dCons (dVar 15) dNil)))) (dOp vMul (dPeek 13) (dPeek 1)) (lv q x2 x3 x4 x5 x6 x7 x8 x9 x10 x11 (.val (.list (ps.map .int))) (iv k) x14 (iv p)) = .ret (.int (2 * hf q p + k * q)) := by
      refine (op2 (d1 := .int (2 * hf q p)) (d2 := .int (k * q)) ((op2 (g := vMul) (d1 := .int 2) rfl c1).trans (vMul_a (k := 10) (l := 10) (by decide))) ((op2 (g := vMul) (d1 := .int k) (d2 := .int q) rfl rfl).trans (vMul_a (k := 10) (l := 10) (by decide)))).trans (r_add _ _)
    have a2 : dOp vMul (dCst (.int 2)) (dPeek 1) (lv q x2 x3 x4 x5 x6 x7 x8 x9 x10 x11 (.val (.list (ps.map .int))) (iv k) x14 (iv p)) = .ret (.int (2 * q)) := (op2 (g := vMul) (d1 := .int 2) (d2 := .int q) rfl rfl).trans (vMul_a (k := 10) (l := 10) (by decide))
    rw [r_op, a1, Cm.ret_bind, Cm.alls_bind, r_op, a2, Cm.ret_bind, Cm.alls_bind, r_op, Cm.alls_bind, call2 m_Ltake (d := drwT) (d2 := .int 5) rfl rfl]
    refine take_all (by decide) (by decide) fun i h0 h1 => ?_
    haveI : Bd 10 (i - 2) := ⟨by omega⟩
    have a3 : vMul (.int (2 * q)) (.int (i - 2)) = .ret (.int (2 * q * (i - 2))) := vMul_a (k := 20) (l := 10) (by decide)
    rw [r_cst, Cm.ret_bind, r_sub, Cm.alls_ret, a3, Cm.alls_ret, r_add, Cm.alls_ret]
    refine ⟨rfl, _, rfl, ?_, ?_⟩
    · have h2 : (2 * q * (i - 2)).natAbs ≤ 26 * 2 := by
        rw [Int.natAbs_mul]
        exact Nat.mul_le_mul (by omega) (by omega)
      have h3 : (k * q).natAbs ≤ 1 * 13 := by
        rw [Int.natAbs_mul]
        exact Nat.mul_le_mul (by omega) (by omega)
      omega
    · have : 2 * hf q p + k * q + 2 * q * (i - 2) - k * q = 2 * (hf q p + q * (i - 2)) := by grind
      rw [this]; omega
  refine key.mono fun ys ⟨hl2, hy⟩ => ?_
  rw [List.length_map, hl] at hl2
  match ys, hl2 with
  | [y1, y2, y3, y4], _ =>
    obtain ⟨i1, rfl, b1, p1⟩ := hy y1 (by simp)
    obtain ⟨i2, rfl, b2, p2⟩ := hy y2 (by simp)
    obtain ⟨i3, rfl, b3, p3⟩ := hy y3 (by simp)
    obtain ⟨i4, rfl, b4, p4⟩ := hy y4 (by simp)
    exact (Cm.alls_ret _ _).mpr ((Cm.alls_ret _ _).mpr ((Cm.alls_ret _ _).mpr ((Cm.alls_ret _ _).mpr ⟨⟨i1, i2, i3, i4⟩, rfl, ⟨by show (i2 - i1) % 2 = 0; omega, by show (i3 - i1) % 2 = 0; omega, by show (i4 - i1) % 2 = 0; omega⟩, ⟨b1, b2, b3, b4⟩⟩)))
theorem pt_bd {q e f a b : Int} {l : Int × Int} (hq : Five q) (M : Mk q e f) (hl : IsL q l) (ha : 0 ≤ a ∧ a < q) (hb : 0 ≤ b ∧ b < q) : ∀ p ∈ ptL e f a b l, Bd 2000 p := by
  obtain ⟨l1, l2⟩ := isl_bd hq hl
  haveI := l1
  haveI := l2
  haveI := M.be
  haveI := M.bf
  have q13 := hq.le
  haveI : Bd 10 a := ⟨by omega⟩
  haveI : Bd 10 b := ⟨by omega⟩
  haveI : Bd 2 (0 : Int) := ⟨by decide⟩
  intro p hp
  simp only [ptL, List.mem_cons, List.not_mem_nil, or_false] at hp
  rcases hp with rfl | rfl | rfl | rfl
  · exact Bd.mono (k := 10 + 10 + (10 + 10) + 1) inferInstance (by decide)
  · exact Bd.mono (k := 10 + 10 + (10 + 10) + 1) inferInstance (by decide)
  · exact Bd.mono (k := 2 + (10 + (10 + 10 + (10 + 10) + 1)) + 1 + (10 + (10 + 10 + (10 + 10) + 1)) + 1) inferInstance (by decide)
  · exact Bd.mono (k := 10 + (10 + 10 + (10 + 10) + 1) + (10 + (10 + 10 + (10 + 10) + 1)) + 1) inferInstance (by decide)
abbrev LB : DS := (dSeq (dPar 6 7 (dCallN 2 m_Ltake (dCons (dVar 0) (dCons (dVar 1) dNil))) (dOp vAdd (dCst (.int 1)) (dCallN 2 m_Ltake (dCons (dVar 0) (dCons (dOp vSub (dPeek 1) (dCst (.int 1))) dNil)))))
    (dSeq (dAsg (dTupF (dCons (dOp vMul (dOp vIx (dPeek 4) (dCst (.int 0))) (dPeek 6)) (dCons (dOp vMul (dOp vIx (dPeek 4) (dCst (.int 0))) (dPeek 7)) (dCons (dOp vMul (dOp vIx (dPeek 4) (dCst (.int 1))) (dPeek 6)) (dCons (dOp vMul (dOp vIx (dPeek 4) (dCst (.int 1))) (dPeek 7)) dNil))))) (gTp 4 (gsCons (gN 8) (gsCons (gN 9) (gsCons (gN 10) (gsCons (gN 11) gsNil))))))
    (dSeq (dSet 12 (dOnlyL (dLstF (dCons (dOp vAdd (dPeek 8) (dPeek 11)) (dCons (dOp vSub (dPeek 10) (dPeek 9)) (dCons (dOp vSub (dOp vSub (dCst (.int 0)) (dOp vMul (dPeek 2) (dOp vSub (dPeek 8) (dPeek 11)))) (dOp vMul (dPeek 3) (dOp vAdd (dPeek 9) (dPeek 10)))) (dCons (dOp vSub (dOp vMul (dPeek 3) (dOp vSub (dPeek 8) (dPeek 11))) (dOp vMul (dPeek 2) (dOp vAdd (dPeek 9) (dPeek 10)))) dNil)))))))
    (dSeq (dSet 13 (dCallN 2 m_Ltake (dCons (dVar 0) (dCons (dCst (.int 2)) dNil))))
    (dSeq (dSet 14 LQ)
    (dIfS (dTru (dCallN 2 m_Lhas_line (dCons (dVar 1) (dCons (dVar 14) dNil)))) (dRet (dVar 14)) dSkip))))))
/-- after a lap: parts of the path -/
def AfterL (q e f : Int) (l : Int × Int) (E : Fs.Env) : Prop := ∃ a b x5 x6 x7 x8 x9 x10 x11 x13 x14 x15, (0 ≤ a ∧ a < q) ∧ (1 ≤ b ∧ b < q) ∧ E = lv q (iv e) (iv f) (.val (lnD l)) x5 x6 x7 x8 x9 x10 x11 (.val (.list ((ptL e f a b l).map .int))) x13 x14 x15
theorem lap_all {q e f : Int} {l : Int × Int} (hq : Five q) (M : Mk q e f) (hl : IsL q l) (x5 x6 x7 x8 x9 x10 x11 x12 x13 x14 x15 : Slot) :
    (LB (lv q (iv e) (iv f) (.val (lnD l)) x5 x6 x7 x8 x9 x10 x11 x12 x13 x14 x15)).AllS fun o => match o with
      | .nx E => AfterL q e f l E
      | .rt d => ∃ w : Qt, d = w.D ∧ Hl q w ∧ Lb 100 w
      | _ => False := by
  have q0 := five_pos hq
  have q13 := hq.le
  refine seq_all (fun E => ∃ a b, (0 ≤ a ∧ a < q) ∧ (1 ≤ b ∧ b < q) ∧ E = lv q (iv e) (iv f) (.val (lnD l)) x5 (iv a) (iv b) x8 x9 x10 x11 x12 x13 x14 x15) (par_all ?_) ?_
  · rw [call2 m_Ltake (d := drwT) (d2 := .int q) rfl rfl]
    refine take_all q0 (by have : q.natAbs.log2 ≤ q.natAbs := Nat.log2_le_self _; omega) fun a a0 a1 => ?_
    rw [r_op, r_cst, Cm.ret_bind, Cm.alls_bind, call2 m_Ltake (d := drwT) (d2 := .int (q - 1)) rfl rfl]
    refine take_all (by omega) (by have : (q - 1).natAbs.log2 ≤ (q - 1).natAbs := Nat.log2_le_self _; omega) fun b b0 b1 => ?_
    exact (Cm.alls_ret _ _).mpr ⟨a, 1 + b, ⟨a0, a1⟩, ⟨by omega, by omega⟩, rfl⟩
  · rintro _ ⟨a, b, ha, hb, rfl⟩
    obtain ⟨l1, l2⟩ := isl_bd hq hl
    haveI := l1
    haveI := l2
    haveI := M.be
    haveI := M.bf
    haveI : Bd 10 a := ⟨by omega⟩
    haveI : Bd 10 b := ⟨by omega⟩
    have pb := pt_bd hq M hl ha ⟨by omega, hb.2⟩
    have s1 : dAsg (dTupF (dCons (dOp vMul (dOp vIx (dPeek 4) (dCst (.int 0))) (dPeek 6)) (dCons (dOp vMul (dOp vIx (dPeek 4) (dCst (.int 0))) (dPeek 7)) (dCons (dOp vMul (dOp vIx (dPeek 4) (dCst (.int 1))) (dPeek 6)) (dCons (dOp vMul (dOp vIx (dPeek 4) (dCst (.int 1))) (dPeek 7)) dNil))))) (gTp 4 (gsCons (gN 8) (gsCons (gN 9) (gsCons (gN 10) (gsCons (gN 11) gsNil))))) (lv q (iv e) (iv f) (.val (lnD l)) x5 (iv a) (iv b) x8 x9 x10 x11 x12 x13 x14 x15)
        = .ret (.nx (lv q (iv e) (iv f) (.val (lnD l)) x5 (iv a) (iv b) (iv (l.1 * a)) (iv (l.1 * b)) (iv (l.2 * a)) (iv (l.2 * b)) x12 x13 x14 x15)) := by
      simp [vMul_a]
    refine seq_nx s1 ?_
    have s2 : dSet 12 (dOnlyL (dLstF (dCons (dOp vAdd (dPeek 8) (dPeek 11)) (dCons (dOp vSub (dPeek 10) (dPeek 9)) (dCons (dOp vSub (dOp vSub (dCst (.int 0)) (dOp vMul (dPeek 2) (dOp vSub (dPeek 8) (dPeek 11)))) (dOp vMul (dPeek 3) (dOp vAdd (dPeek 9) (dPeek 10)))) (dCons (dOp vSub (dOp vMul (dPeek 3) (dOp vSub (dPeek 8) (dPeek 11))) (dOp vMul (dPeek 2) (dOp vAdd (dPeek 9) (dPeek 10)))) dNil)))))) (lv q (iv e) (iv f) (.val (lnD l)) x5 (iv a) (iv b) (iv (l.1 * a)) (iv (l.1 * b)) (iv (l.2 * a)) (iv (l.2 * b)) x12 x13 x14 x15)
        = .ret (.nx (lv q (iv e) (iv f) (.val (lnD l)) x5 (iv a) (iv b) (iv (l.1 * a)) (iv (l.1 * b)) (iv (l.2 * a)) (iv (l.2 * b)) (.val (.list ((ptL e f a b l).map .int))) x13 x14 x15)) := by
      refine set_nx ?_
      simp [vMul_a, ptL]
    refine seq_nx s2 ?_
    refine seq_all (fun E => ∃ k : Int, (0 ≤ k ∧ k < 2) ∧ E = lv q (iv e) (iv f) (.val (lnD l)) x5 (iv a) (iv b) (iv (l.1 * a)) (iv (l.1 * b)) (iv (l.2 * a)) (iv (l.2 * b)) (.val (.list ((ptL e f a b l).map .int))) (iv k) x14 x15) (set_all ?_) ?_
    · rw [call2 m_Ltake (d := drwT) (d2 := .int 2) rfl rfl]
      exact take_all (by decide) (by decide) fun i h0 h1 => ⟨i, ⟨h0, h1⟩, rfl⟩
    rintro _ ⟨k, hk, rfl⟩
    refine seq_all (fun E => ∃ w : Qt, w.Ok ∧ Lb 100 w ∧ E = lv q (iv e) (iv f) (.val (lnD l)) x5 (iv a) (iv b) (iv (l.1 * a)) (iv (l.1 * b)) (iv (l.2 * a)) (iv (l.2 * b)) (.val (.list ((ptL e f a b l).map .int))) (iv k) (.val w.D) x15) (set_all ?_) ?_
    · exact (lq_all hq hk (ps := ptL e f a b l) rfl pb _ _ _ _ _ _ _ _ _ _ _ _).mono fun d ⟨w, h1, h2, h3⟩ => ⟨w, h2, h3, by rw [h1]; rfl⟩
    rintro _ ⟨w, hw, lw, rfl⟩
    have t : dTru (dCallN 2 m_Lhas_line (dCons (dVar 1) (dCons (dVar 14) dNil))) (lv q (iv e) (iv f) (.val (lnD l)) x5 (iv a) (iv b) (iv (l.1 * a)) (iv (l.1 * b)) (iv (l.2 * a)) (iv (l.2 * b)) (.val (.list ((ptL e f a b l).map .int))) (iv k) (.val w.D) x15) = .ret (decide (nsq w % q = 0) && !decide (Zq q w)) :=
      tru_b ((call2 m_Lhas_line (d := .int q) (d2 := w.D) rfl rfl).trans (ev_Lhl hq (lw.sm (by decide)) hw))
    rw [r_ifS, t, Cm.ret_bind]
    by_cases h1 : nsq w % q = 0
    · by_cases h2 : Zq q w
      · rw [decide_eq_true h1, decide_eq_true h2]
        exact (Cm.alls_ret _ _).mpr ⟨a, b, _, _, _, _, _, _, _, _, _, _, ha, hb, rfl⟩
      · rw [decide_eq_true h1, decide_eq_false h2]
        exact (Cm.alls_ret _ _).mpr ⟨w, rfl, ⟨hw, h1, h2⟩, lw⟩
    · rw [decide_eq_false h1]
      exact (Cm.alls_ret _ _).mpr ⟨a, b, _, _, _, _, _, _, _, _, _, _, ha, hb, rfl⟩
end Fw

set_option linter.all false
set_option autoImplicit false
set_option maxRecDepth 100000
set_option exponentiation.threshold 2000
set_option maxHeartbeats 2000000
namespace Fw
open PySem Fs Fq Qt
theorem lap_step {q e f : Int} {l : Int × Int} (hq : Five q) (M : Mk q e f) (hl : IsL q l) (d : Fs.D) {E : Fs.Env} (hE : ∃ x5 x6 x7 x8 x9 x10 x11 x12 x13 x14 x15, E = lv q (iv e) (iv f) (.val (lnD l)) x5 x6 x7 x8 x9 x10 x11 x12 x13 x14 x15) :
    (gN 5 d E).AllS fun e1 => (LB e1).AllS fun o => match o with
      | .nx E => AfterL q e f l E
      | .ct E => AfterL q e f l E
      | .bk E => AfterL q e f l E
      | .rt d => ∃ w : Qt, d = w.D ∧ Hl q w ∧ Lb 100 w := by
  obtain ⟨x5, x6, x7, x8, x9, x10, x11, x12, x13, x14, x15, rfl⟩ := hE
  rw [r_gN, Cm.alls_ret]
  refine (lap_all hq M hl (.val d) x6 x7 x8 x9 x10 x11 x12 x13 x14 x15).mono fun o ho => ?_
  cases o with
  | nx e => exact ho
  | rt d => exact ho
  | bk e => exact ho.elim
  | ct e => exact ho.elim
theorem loop_all {q e f : Int} {l : Int × Int} (hq : Five q) (M : Mk q e f) (hl : IsL q l) {E : Fs.Env} (hE : ∃ x5 x6 x7 x8 x9 x10 x11 x12 x13 x14 x15, E = lv q (iv e) (iv f) (.val (lnD l)) x5 x6 x7 x8 x9 x10 x11 x12 x13 x14 x15) :
    (dFor (dRng1 (dCons (dCst (.int 3)) dNil)) (gN 5) LB E).AllS fun o => match o with
      | .nx E => AfterL q e f l E
      | .rt d => ∃ w : Qt, d = w.D ∧ Hl q w ∧ Lb 100 w
      | _ => False := by
  rw [r_for]
  show Cm.AllS _ (forGo (gN 5) LB [.int 0, .int 1, .int 2] E)
  rw [r_for1, Cm.alls_bind]
  refine (lap_step hq M hl (.int 0) hE).mono fun e1 h1 => ?_
  rw [Cm.alls_bind]
  refine h1.mono fun o ho => ?_
  have rest : ∀ E, AfterL q e f l E → (forGo (gN 5) LB [.int 1, .int 2] E).AllS fun o => match o with
      | .nx E => AfterL q e f l E
      | .rt d => ∃ w : Qt, d = w.D ∧ Hl q w ∧ Lb 100 w
      | _ => False := fun E h => forGo_all (Inv := AfterL q e f l) (P := fun d => ∃ w : Qt, d = w.D ∧ Hl q w ∧ Lb 100 w) h fun d _ e h => by
    obtain ⟨a, b, x5, x6, x7, x8, x9, x10, x11, x13, x14, x15, _, _, rfl⟩ := h
    exact lap_step hq M hl d ⟨_, _, _, _, _, _, _, _, _, _, _, rfl⟩
  cases o with
  | nx e => exact rest e ho
  | ct e => exact rest e ho
  | bk e => exact (Cm.alls_ret _ _).mpr ho
  | rt d => exact (Cm.alls_ret _ _).mpr ho
theorem last_e {q e f a b : Int} {l : Int × Int} (hq : Five q) (M : Mk q e f) (hl : IsL q l) (ha : 0 ≤ a ∧ a < q) (hb : 1 ≤ b ∧ b < q) (x5 x6 x7 x8 x9 x10 x11 x13 x14 x15 : Slot) :
    ∃ w : Qt, dCall cTuple (dCons (dOnlyL (dLc (dItems (dVar 12)) (gN 15) dYes (dOp vMul (dCst (.int 2)) (dCallN 2 m_Lhalf (dCons (dVar 1) (dCons (dVar 15) dNil)))) [15])) dNil) (lv q (iv e) (iv f) (.val (lnD l)) x5 x6 x7 x8 x9 x10 x11 (.val (.list ((ptL e f a b l).map .int))) x13 x14 x15) = .ret w.D ∧ Hl q w ∧ Lb 100 w := by
  have q13 := hq.le
  have o := five_odd hq
  have pb := pt_bd hq M hl ha ⟨by omega, hb.2⟩
  have hb0 : b % q ≠ 0 := by rw [Int.emod_eq_of_lt (by omega) hb.2]; omega
  obtain ⟨h1, h2⟩ := lined_hl (a := a) (b := b) hq M hl hb0
  refine ⟨_, ?_, h1, h2⟩
  have hlc := lcGo_map (g := gN 15) (t := dYes) (f := dOp vMul (dCst (.int 2)) (dCallN 2 m_Lhalf (dCons (dVar 1) (dCons (dVar 15) dNil)))) (env := lv q (iv e) (iv f) (.val (lnD l)) x5 x6 x7 x8 x9 x10 x11 (.val (.list ((ptL e f a b l).map .int))) x13 x14 .no)
    (fun d => match d with | .int p => .int (2 * hf q p) | d => d) (items := (ptL e f a b l).map .int) (fun d hd => by
      obtain ⟨p, hp, rfl⟩ := List.mem_map.mp hd
      haveI := pb p hp
      have c1 := (call2 m_Lhalf (env := lv q (iv e) (iv f) (.val (lnD l)) x5 x6 x7 x8 x9 x10 x11 (.val (.list ((ptL e f a b l).map .int))) x13 x14 (iv p)) (f := dVar 1) (f2 := dVar 15) (d := .int q) (d2 := .int p) rfl rfl).trans (ev_Lhalf hq)
      haveI := rngz q (n := p) q13.1 o q13.2
      haveI : Bd 10 (2 : Int) := ⟨by decide⟩
      exact ⟨_, rfl, rfl, (op2 (g := vMul) (d1 := .int 2) rfl c1).trans (vMul_a (k := 10) (l := 10) (by decide)), rfl⟩)
  have hr := lc_run (vs := [15]) (env := lv q (iv e) (iv f) (.val (lnD l)) x5 x6 x7 x8 x9 x10 x11 (.val (.list ((ptL e f a b l).map .int))) x13 x14 x15) (fi := dItems (dVar 12)) (items := (ptL e f a b l).map .int) rfl (by rw [List.length_map]; show 4 < 1000000; decide) hlc
  rw [r_call, r_cons, hr]
  rfl
theorem lined_all {q e f : Int} (hq : Five q) (M : Mk q e f) : (m_Llined [drwT, .int q]).AllS fun x => ∃ w : Qt, x = w.D ∧ Hl q w ∧ Lb 100 w := by
  have q0 := five_pos hq
  have q13 := hq.le
  have e0 : m_Llined [drwT, .int q] = (S_Llined (lv q .no .no .no .no .no .no .no .no .no .no .no .no .no .no)).bind outD := rfl
  rw [e0, Cm.alls_bind]
  unfold S_Llined
  refine seq_all (fun E => ∃ l, IsL q l ∧ E = lv q (iv e) (iv f) (.val (lnD l)) .no .no .no .no .no .no .no .no .no .no .no) (asg_all ?_) ?_
  · have lm := (call1 m_Lmarks (env := lv q .no .no .no .no .no .no .no .no .no .no .no .no .no .no) (f := dVar 1) (d := .int q) rfl).trans (lmarks hq M)
    rw [r_tupF, Cm.alls_bind, r_cons, lm, Cm.ret_bind, Cm.alls_bind, r_cons, Cm.alls_bind]
    refine callN_all2 (d1 := drwT) rfl ?_
    rw [r_onlyL, Cm.alls_bind, r_lstF, Cm.alls_bind, r_cons]
    have t1 : dTupF (dCons (dCst (.int 0)) (dCons (dCst (.int 1)) dNil)) (lv q .no .no .no .no .no .no .no .no .no .no .no .no .no .no) = .ret (.tuple [.int 0, .int 1]) := rfl
    rw [t1, Cm.ret_bind, Cm.alls_bind, r_cons, Cm.alls_bind, r_tupF, Cm.alls_bind, r_cons, r_cst, Cm.ret_bind, Cm.alls_bind, r_cons, Cm.alls_bind, call2 m_Ltake (d := drwT) (d2 := .int q) rfl rfl]
    refine take_all q0 (by have : q.natAbs.log2 ≤ q.natAbs := Nat.log2_le_self _; omega) fun i h0 h1 => ?_
    rw [r_nil, Cm.ret_bind, Cm.alls_ret, Cm.alls_ret, if_pos ⟨by show 2 ≤ 1000000; decide, rfl⟩, Cm.alls_ret, Cm.ret_bind, Cm.alls_ret, Cm.alls_ret, if_pos ⟨by show 2 ≤ 1000000; decide, rfl⟩, Cm.alls_ret]
    simp only []
    rw [Cm.alls_ret]
    refine pick_all (by show 0 < 2; decide) (by show Nat.log2 2 < 9000; decide) fun d hd => ?_
    rw [Cm.ret_bind, Cm.alls_ret, Cm.alls_ret]
    have : ∃ l, IsL q l ∧ d = lnD l := by
      simp only [List.mem_cons, List.not_mem_nil, or_false] at hd
      rcases hd with rfl | rfl
      · exact ⟨(0, 1), .inl rfl, rfl⟩
      · exact ⟨(1, i), .inr ⟨rfl, h0, h1⟩, rfl⟩
    obtain ⟨l, hl, rfl⟩ := this
    rw [if_pos ⟨by show 2 ≤ 1000000; decide, rfl⟩]
    exact (Cm.alls_ret _ _).mpr ⟨_, rfl, l, hl, rfl⟩
  · rintro _ ⟨l, hl, rfl⟩
    rw [r_seq, Cm.alls_bind]
    refine (loop_all hq M hl ⟨_, _, _, _, _, _, _, _, _, _, _, rfl⟩).mono fun o ho => ?_
    cases o with
    | bk e => exact ho.elim
    | ct e => exact ho.elim
    | rt d => exact (Cm.alls_ret _ _).mpr ((Cm.alls_ret _ _).mpr ho)
    | nx E =>
      obtain ⟨a, b, x5, x6, x7, x8, x9, x10, x11, x13, x14, x15, ha, hb, rfl⟩ := ho
      obtain ⟨w, ew, hw, lw⟩ := last_e hq M hl ha hb x5 x6 x7 x8 x9 x10 x11 x13 x14 x15
      simp only []
      rw [r_ret, ew, Cm.ret_bind, Cm.alls_ret]
      exact (Cm.alls_ret _ _).mpr ⟨w, rfl, hw, lw⟩
end Fw

set_option linter.all false
set_option autoImplicit false
set_option maxRecDepth 100000
set_option exponentiation.threshold 2000
set_option maxHeartbeats 2000000
namespace Fw
open PySem Fs Fq Qt
/-! ## the law's body -/
abbrev rv (q : Int) (x y u : Qt) (s5 s6 s7 s8 s9 s10 s11 s12 : Slot) : Fs.Env := [.val drwT, iv q, .val x.D, .val y.D, .val u.D, s5, s6, s7, s8, s9, s10, s11, s12]
theorem vne_bb (a : Bool) : vNe (.bool a) (.bool a) = .ret (.bool false) := by cases a <;> rfl
theorem veq_bb (a : Bool) : vEq (.bool a) (.bool a) = .ret (.bool true) := by cases a <;> rfl
theorem vne_q4 (a b c d : Int) : vNe (q4 a b c d) (q4 a b c d) = .ret (.bool false) := vNe_self (sh_q4 _ _ _ _) rfl
theorem bq_sm {x : Qt} (h : Bq 15 x) : Sm x := by
  have e : (2 : Nat) ^ 15 < 500000 := by decide
  exact ⟨Nat.lt_trans h.a.lt e, Nat.lt_trans h.b.lt e, Nat.lt_trans h.c.lt e, Nat.lt_trans h.d.lt e⟩
theorem and_no {t u : DT} {E : Fs.Env} (h : t E = .ret false) : dAndT t u E = .ret false := by rw [r_andT, h]; rfl
theorem and_no2 {t u : DT} {E : Fs.Env} {b : Bool} (h : t E = .ret b) (h2 : b = true → u E = .ret false) : dAndT t u E = .ret false := by
  rw [r_andT, h, Cm.ret_bind]
  cases b with
  | true => rw [if_pos rfl]; exact h2 rfl
  | false => rfl
structure Fx (q e f : Int) (x y u : Qt) : Prop where
  hq : Five q
  M : Mk q e f
  hx : Hl q x
  hy : Hl q y
  bx : Lb 100 x
  bY : Lb 100 y
  hu : u.Ok
  bu : Lb 9 u
  n : nsq u % q ≠ 0
section
variable {q e f : Int} {x y u : Qt} (F : Fx q e f x y u)
include F
theorem Fx.b1 : Bq 7 x := F.bx.bq (j := 7) (by decide)
theorem Fx.b2 : Bq 7 y := F.bY.bq (j := 7) (by decide)
theorem Fx.b3 : Bq 4 u := F.bu.bq (j := 4) (by decide)
theorem s4_e (s6 s7 s8 s9 s10 s11 s12 : Slot) : dOrT (dTru (dOp vNe (dPeek 5) (dCallN 2 m_Lline (dCons (dVar 1) (dCons (dVar 2) dNil))))) (dOrT (dTru (dOp vNe (dCallN 2 m_line_of (dCons (dVar 1) (dCons (dCallN 2 m_product (dCons (dVar 4) (dCons (dVar 2) dNil))) dNil))) (dCallN 3 m_led_line (dCons (dVar 1) (dCons (dVar 4) (dCons (dVar 5) dNil)))))) (dTru (dOp vNe (dCallN 2 m_line_of (dCons (dVar 1) (dCons (dCallN 2 m_product (dCons (dVar 2) (dCons (dVar 4) dNil))) dNil))) (dPeek 5))))
    (rv q x y u (.val (lnD (lineT q (tbl q e f x)))) s6 s7 s8 s9 s10 s11 s12) = .ret false := by
  obtain ⟨m, n, R⟩ := F.hx.r1 F.hq F.M
  have il := lineT_isl (t := tbl q e f x) F.hq
  obtain ⟨h1, e1⟩ := line_left F.hq F.M F.hx.ok F.hu F.n il R
  obtain ⟨h2, e2⟩ := line_right F.hq F.M F.hx.ok F.hu F.n il R
  have p1 := (call2 m_product (env := rv q x y u (.val (lnD (lineT q (tbl q e f x)))) s6 s7 s8 s9 s10 s11 s12) (f := dVar 4) (f2 := dVar 2) (d := u.D) (d2 := x.D) rfl rfl).trans (ev_productQ (F.b3.mono (by decide)) (F.b1.mono (by decide)) F.hu F.hx.ok)
  have p2 := (call2 m_product (env := rv q x y u (.val (lnD (lineT q (tbl q e f x)))) s6 s7 s8 s9 s10 s11 s12) (f := dVar 2) (f2 := dVar 4) (d := x.D) (d2 := u.D) rfl rfl).trans (ev_productQ (F.b1.mono (by decide)) (F.b3.mono (by decide)) F.hx.ok F.hu)
  have c1 := (call2 m_Lline (env := rv q x y u (.val (lnD (lineT q (tbl q e f x)))) s6 s7 s8 s9 s10 s11 s12) (f := dVar 1) (f2 := dVar 2) (d := .int q) (d2 := x.D) rfl rfl).trans (ev_Lline F.hq F.M (F.b1.mono (by decide)))
  have c2 := (call2 m_line_of (env := rv q x y u (.val (lnD (lineT q (tbl q e f x)))) s6 s7 s8 s9 s10 s11 s12) (f := dVar 1) (d := .int q) rfl p1).trans (ev_lineof F.hq F.M ((F.b3.mulT F.b1).mono (by decide)) h1)
  have c3 := (call3 m_led_line (env := rv q x y u (.val (lnD (lineT q (tbl q e f x)))) s6 s7 s8 s9 s10 s11 s12) (f := dVar 1) (f2 := dVar 4) (f3 := dVar 5) (d := .int q) (d2 := u.D) (d3 := lnD (lineT q (tbl q e f x))) rfl rfl rfl).trans (ev_led F.hq F.M (F.b3.mono (by decide)) F.hu F.n il)
  have c4 := (call2 m_line_of (env := rv q x y u (.val (lnD (lineT q (tbl q e f x)))) s6 s7 s8 s9 s10 s11 s12) (f := dVar 1) (d := .int q) rfl p2).trans (ev_lineof F.hq F.M ((F.b1.mulT F.b3).mono (by decide)) h2)
  rw [e1] at c2
  rw [e2] at c4
  refine or_no (tru_b ((op2 (d1 := lnD (lineT q (tbl q e f x))) rfl c1).trans ?_)) (or_no (tru_b ((op2 c2 c3).trans ?_)) (tru_b ((op2 c4 (d2 := lnD (lineT q (tbl q e f x))) rfl).trans ?_))) <;> rw [vne_ln, decide_eq_true rfl] <;> rfl
theorem s6_e (s7 s8 s9 s10 s11 s12 : Slot) : dOrT (dTru (dOp vNe (dCallN 2 m_is_divided (dCons (dVar 6) (dCons (dVar 1) dNil))) (dIf (dTru (dOp vNe (dPeek 6) (dTupF (dCons (dCst (.int 0)) (dCons (dCst (.int 0)) (dCons (dCst (.int 0)) (dCons (dCst (.int 0)) dNil))))))) (dOp vEq (dOp vMod (dCall cInt (dCons (dOp vIx (dCallN 1 m_Lcontent (dCons (dVar 6) dNil)) (dCst (.int 0))) dNil)) (dPeek 1)) (dCst (.int 0))) (dCst (.bool true))))) (dAndT (dNotT (dTru (dCallN 2 m_is_divided (dCons (dVar 6) (dCons (dVar 1) dNil))))) (dTru (dOp vNe (dCallN 2 m_line_of (dCons (dVar 1) (dCons (dVar 6) dNil))) (dPeek 5))))
    (rv q x y u (.val (lnD (lineT q (tbl q e f x)))) (.val (mul x y).D) s7 s8 s9 s10 s11 s12) = .ret false := by
  obtain ⟨m, n, R⟩ := F.hx.r1 F.hq F.M
  obtain ⟨m2, n2, S⟩ := F.hy.r1 F.hq F.M
  have q0 := five_pos F.hq
  have il := lineT_isl (t := tbl q e f x) F.hq
  have ok := ok_mul F.hx.ok F.hy.ok
  have b := F.b1.mulT F.b2
  have both := line_both F.hq F.M F.hx.ok F.hy.ok il R S
  have c1 := (call2 m_is_divided (env := rv q x y u (.val (lnD (lineT q (tbl q e f x)))) (.val (mul x y).D) s7 s8 s9 s10 s11 s12) (f := dVar 6) (f2 := dVar 1) (d := (mul x y).D) (d2 := .int q) rfl rfl).trans (ev_div F.hq (b.mono (by decide)) ok)
  have c0 : dOp vNe (dPeek 6) (dTupF (dCons (dCst (.int 0)) (dCons (dCst (.int 0)) (dCons (dCst (.int 0)) (dCons (dCst (.int 0)) dNil))))) (rv q x y u (.val (lnD (lineT q (tbl q e f x)))) (.val (mul x y).D) s7 s8 s9 s10 s11 s12) = .ret (.bool (!decide (mul x y = Qt.zero))) := by
    rw [op2 (d1 := (mul x y).D) (d2 := Qt.zero.D) rfl rfl, vne_D]
  have c2 : dIf (dTru (dOp vNe (dPeek 6) (dTupF (dCons (dCst (.int 0)) (dCons (dCst (.int 0)) (dCons (dCst (.int 0)) (dCons (dCst (.int 0)) dNil))))))) (dOp vEq (dOp vMod (dCall cInt (dCons (dOp vIx (dCallN 1 m_Lcontent (dCons (dVar 6) dNil)) (dCst (.int 0))) dNil)) (dPeek 1)) (dCst (.int 0))) (dCst (.bool true)) (rv q x y u (.val (lnD (lineT q (tbl q e f x)))) (.val (mul x y).D) s7 s8 s9 s10 s11 s12) = .ret (.bool (decide (Zq q (mul x y)))) := by
    rw [r_if, tru_b c0, Cm.ret_bind]
    by_cases h0 : nsq (mul x y) = 0
    · rw [zero_nsq h0, decide_eq_true rfl, decide_eq_true (zq_zero q)]
      rfl
    · rw [decide_eq_false (nz_ne h0)]
      simp only [Bool.not_false, if_true]
      obtain ⟨r, er⟩ := ev_Lcontent (bq_sm b) h0
      have a1 := (call1 m_Lcontent (env := rv q x y u (.val (lnD (lineT q (tbl q e f x)))) (.val (mul x y).D) s7 s8 s9 s10 s11 s12) (f := dVar 6) (d := (mul x y).D) rfl).trans er
      have a2 : dCall cInt (dCons (dOp vIx (dCallN 1 m_Lcontent (dCons (dVar 6) dNil)) (dCst (.int 0))) dNil) (rv q x y u (.val (lnD (lineT q (tbl q e f x)))) (.val (mul x y).D) s7 s8 s9 s10 s11 s12) = .ret (.int (cont (mul x y))) := by
        rw [r_call, r_cons, op2 a1 (d2 := .int 0) rfl, r_ix_t, at0]; rfl
      rw [op2 ((op2 a2 (d2 := .int q) rfl).trans (by rw [r_mod, if_pos q0])) (d2 := .int 0) rfl, r_eq_ii, cont_zq F.hq ok h0]
  refine or_no (tru_b ((op2 c1 c2).trans (vne_bb _))) (and_no2 (b := !decide (Zq q (mul x y))) ?_ fun hb => ?_)
  · rw [r_notT, tru_b c1]; rfl
  · have hz : ¬ Zq q (mul x y) := by simpa using hb
    obtain ⟨H, el⟩ := both.resolve_left hz
    have c3 := (call2 m_line_of (env := rv q x y u (.val (lnD (lineT q (tbl q e f x)))) (.val (mul x y).D) s7 s8 s9 s10 s11 s12) (f := dVar 1) (f2 := dVar 6) (d := .int q) (d2 := (mul x y).D) rfl rfl).trans (ev_lineof F.hq F.M (b.mono (by decide)) H)
    rw [el] at c3
    refine tru_b ((op2 c3 (d2 := lnD (lineT q (tbl q e f x))) rfl).trans ?_)
    rw [vne_ln, decide_eq_true rfl]; rfl
end
theorem hl_conj {q e f : Int} {x : Qt} (hq : Five q) (M : Mk q e f) (h : Hl q x) : Hl q (conj x) := ⟨ok_conj h.ok, by rw [nsq_conj]; exact h.n, fun z => h.z (by
  obtain ⟨h1, h2, h3, h4⟩ := z
  have ng : ∀ {i : Int}, (-i) % q = 0 → i % q = 0 := fun {i} h => by
    obtain ⟨k, hk⟩ := Int.dvd_of_emod_eq_zero h
    rw [show i = q * (-k) by rw [Int.mul_neg]; omega]
    exact Int.mul_emod_right _ _
  exact ⟨h1, ng h2, ng h3, ng h4⟩)⟩
end Fw

set_option linter.all false
set_option autoImplicit false
set_option maxRecDepth 100000
set_option exponentiation.threshold 2000
set_option maxHeartbeats 2000000
namespace Fw
open PySem Fs Fq Qt
/-- the body's slots when the table stands -/
noncomputable abbrev rt (q e f : Int) (x y u : Qt) (s11 s12 : Slot) : Fs.Env := rv q x y u (.val (lnD (lineT q (tbl q e f x)))) (.val (mul x y).D) (iv (tbl q e f x).A) (iv (tbl q e f x).B) (iv (tbl q e f x).C) (iv (tbl q e f x).E) s11 s12
section
variable {q e f : Int} {x y u : Qt} (F : Fx q e f x y u)
include F
theorem s7_e (s7 s8 s9 s10 s11 s12 : Slot) : dAsg (dCallN 2 m_table_of (dCons (dVar 1) (dCons (dVar 2) dNil))) (gTp 4 (gsCons (gN 7) (gsCons (gN 8) (gsCons (gN 9) (gsCons (gN 10) gsNil)))))
    (rv q x y u (.val (lnD (lineT q (tbl q e f x)))) (.val (mul x y).D) s7 s8 s9 s10 s11 s12) = .ret (.nx (rt q e f x y u s11 s12)) := by
  have c := (call2 m_table_of (env := rv q x y u (.val (lnD (lineT q (tbl q e f x)))) (.val (mul x y).D) s7 s8 s9 s10 s11 s12) (f := dVar 1) (f2 := dVar 2) (d := .int q) (d2 := x.D) rfl rfl).trans (ev_tbl F.M (F.b1.mono (by decide)) F.hx.ok)
  rw [r_asg, c]
  rfl
theorem back_c (s11 s12 : Slot) : dCallN 1 m_back (dCons (dVar 2) dNil) (rt q e f x y u s11 s12) = .ret (conj x).D := (call1 m_back (d := x.D) rfl).trans (ev_backQ (F.b1.mono (by decide)) F.hx.ok)
theorem s8_e (s11 s12 : Slot) : dTru (dOp vNe (dCallN 2 m_table_of (dCons (dVar 1) (dCons (dCallN 1 m_back (dCons (dVar 2) dNil)) dNil))) (dTupF (dCons (dVar 10) (dCons (dOp vMod (dCall cInt (dCons (dOp vSub (dCst (.int 0)) (dPeek 8)) dNil)) (dPeek 1)) (dCons (dOp vMod (dCall cInt (dCons (dOp vSub (dCst (.int 0)) (dPeek 9)) dNil)) (dPeek 1)) (dCons (dVar 7) dNil)))))) (rt q e f x y u s11 s12) = .ret false := by
  have q0 := five_pos F.hq
  have c := (call2 m_table_of (env := rt q e f x y u s11 s12) (f := dVar 1) (d := .int q) rfl (back_c F s11 s12)).trans (ev_tbl F.M (F.b1.conj.mono (by decide)) (ok_conj F.hx.ok))
  rw [tbl_conj F.M] at c
  have ms : ∀ (i : Nat) (t : Int), (rt q e f x y u s11 s12)[i]? = some (iv t) → dOp vMod (dCall cInt (dCons (dOp vSub (dCst (.int 0)) (dPeek i)) dNil)) (dPeek 1) (rt q e f x y u s11 s12) = .ret (.int (-t % q)) := fun i t h => by
    have a : dPeek i (rt q e f x y u s11 s12) = .ret (.int t) := by rw [r_peek, h]
    have b : dCall cInt (dCons (dOp vSub (dCst (.int 0)) (dPeek i)) dNil) (rt q e f x y u s11 s12) = .ret (.int (-t)) := by
      rw [r_call, r_cons, op2 (d1 := .int 0) rfl a, r_sub, Int.zero_sub]
      rfl
    rw [op2 b (d2 := .int q) rfl, r_mod, if_pos q0]
  have m1 := ms 8 (tbl q e f x).B rfl
  have m2 := ms 9 (tbl q e f x).C rfl
  have t : dTupF (dCons (dVar 10) (dCons (dOp vMod (dCall cInt (dCons (dOp vSub (dCst (.int 0)) (dPeek 8)) dNil)) (dPeek 1)) (dCons (dOp vMod (dCall cInt (dCons (dOp vSub (dCst (.int 0)) (dPeek 9)) dNil)) (dPeek 1)) (dCons (dVar 7) dNil)))) (rt q e f x y u s11 s12) = .ret (q4 (tbl q e f x).E (-(tbl q e f x).B % q) (-(tbl q e f x).C % q) (tbl q e f x).A) := by
    rw [r_tupF, r_cons, r_cons, m1, r_cons, m2]
    rfl
  exact tru_b ((op2 c t).trans (vne_q4 _ _ _ _))
theorem s10_e {w : Qt} (s12 : Slot) (ew : m_first_of_line [.int q, lnD (lineT q (tbl q e f x))] = .ret w.D) (hw : Hl q w) (bw : Bq 5 w) (lw : lineT q (tbl q e f w) = lineT q (tbl q e f x)) : dOrT (dTru (dOp vNe (dCallN 2 m_first_of_line (dCons (dVar 1) (dCons (dVar 5) dNil))) (dPeek 11))) (dOrT (dTru (dOp vNe (dCallN 2 m_line_of (dCons (dVar 1) (dCons (dVar 11) dNil))) (dPeek 5))) (dTru (dOp vNe (dCallN 2 m_line_of (dCons (dVar 1) (dCons (dCallN 1 m_back (dCons (dVar 2) dNil)) dNil))) (dCallN 2 m_Lline (dCons (dVar 1) (dCons (dCallN 1 m_Lback (dCons (dVar 2) dNil)) dNil))))))
    (rt q e f x y u (.val w.D) s12) = .ret false := by
  have c1 := (call2 m_first_of_line (env := rt q e f x y u (.val w.D) s12) (f := dVar 1) (f2 := dVar 5) (d := .int q) (d2 := lnD (lineT q (tbl q e f x))) rfl rfl).trans ew
  have c2 := (call2 m_line_of (env := rt q e f x y u (.val w.D) s12) (f := dVar 1) (f2 := dVar 11) (d := .int q) (d2 := w.D) rfl rfl).trans (ev_lineof F.hq F.M (bw.mono (by decide)) hw)
  rw [lw] at c2
  have c3 := (call2 m_line_of (env := rt q e f x y u (.val w.D) s12) (f := dVar 1) (d := .int q) rfl (back_c F _ s12)).trans (ev_lineof F.hq F.M (F.b1.conj.mono (by decide)) (hl_conj F.hq F.M F.hx))
  have c4 : dCallN 1 m_Lback (dCons (dVar 2) dNil) (rt q e f x y u (.val w.D) s12) = .ret (conj x).D := (call1 m_Lback (d := x.D) rfl).trans (ev_Lback x)
  have c5 := (call2 m_Lline (env := rt q e f x y u (.val w.D) s12) (f := dVar 1) (d := .int q) rfl c4).trans (ev_Lline F.hq F.M (F.b1.conj.mono (by decide)))
  refine or_no (tru_b ((op2 c1 (d2 := w.D) rfl).trans ?_)) (or_no (tru_b ((op2 c2 (d2 := lnD (lineT q (tbl q e f x))) rfl).trans ?_)) (tru_b ((op2 c3 c5).trans ?_)))
  · rw [vne_D, decide_eq_true rfl]; rfl
  · rw [vne_ln, decide_eq_true rfl]; rfl
  · rw [vne_ln, decide_eq_true rfl]; rfl
theorem s12_e (s11 : Slot) : dAndV (dOp vEq (dCallN 2 m_is_divided (dCons (dVar 12) (dCons (dVar 1) dNil))) (dOp vEq (dCallN 2 m_line_of (dCons (dVar 1) (dCons (dVar 2) dNil))) (dCallN 2 m_line_of (dCons (dVar 1) (dCons (dVar 3) dNil))))) (dOp vEq (dCallN 3 m_led_line (dCons (dVar 1) (dCons (dCallN 2 m_product (dCons (dVar 4) (dCons (dVar 4) dNil))) (dCons (dVar 5) dNil)))) (dCallN 3 m_led_line (dCons (dVar 1) (dCons (dVar 4) (dCons (dCallN 3 m_led_line (dCons (dVar 1) (dCons (dVar 4) (dCons (dVar 5) dNil)))) dNil)))))
    (rt q e f x y u s11 (.val (mul (conj x) y).D)) = .ret (.bool true) := by
  obtain ⟨m, n, R⟩ := F.hx.r1 F.hq F.M
  obtain ⟨m2, n2, S⟩ := F.hy.r1 F.hq F.M
  have il := lineT_isl (t := tbl q e f x) F.hq
  have ok := ok_mul (ok_conj F.hx.ok) F.hy.ok
  have same := line_same F.hq F.M F.hx.ok F.hy.ok il (lineT_isl (t := tbl q e f y) F.hq) R S
  have c1 := (call2 m_is_divided (env := rt q e f x y u s11 (.val (mul (conj x) y).D)) (f := dVar 12) (f2 := dVar 1) (d := (mul (conj x) y).D) (d2 := .int q) rfl rfl).trans (ev_div F.hq ((F.b1.conj.mulT F.b2).mono (by decide)) ok)
  have c2 := (call2 m_line_of (env := rt q e f x y u s11 (.val (mul (conj x) y).D)) (f := dVar 1) (f2 := dVar 2) (d := .int q) (d2 := x.D) rfl rfl).trans (ev_lineof F.hq F.M (F.b1.mono (by decide)) F.hx)
  have c3 := (call2 m_line_of (env := rt q e f x y u s11 (.val (mul (conj x) y).D)) (f := dVar 1) (f2 := dVar 3) (d := .int q) (d2 := y.D) rfl rfl).trans (ev_lineof F.hq F.M (F.b2.mono (by decide)) F.hy)
  have c4 := (op2 (g := vEq) c2 c3).trans (veq_ln _ _)
  rw [decide_eq_decide.mpr same] at c1
  have c5 := (op2 (g := vEq) c1 c4).trans (veq_bb _)
  have p := (call2 m_product (env := rt q e f x y u s11 (.val (mul (conj x) y).D)) (f := dVar 4) (f2 := dVar 4) (d := u.D) (d2 := u.D) rfl rfl).trans (ev_productQ (F.b3.mono (by decide)) (F.b3.mono (by decide)) F.hu F.hu)
  have nn : nsq (mul u u) % q ≠ 0 := fun z => five_mul F.hq F.n F.n (by rw [← nsq_mul F.hu F.hu, Int.mul_emod, z, Int.mul_zero, Int.zero_emod])
  have d1 := (call3 m_led_line (env := rt q e f x y u s11 (.val (mul (conj x) y).D)) (f := dVar 1) (f3 := dVar 5) (d := .int q) (d3 := lnD (lineT q (tbl q e f x))) rfl p rfl).trans (ev_led F.hq F.M ((F.b3.mulT F.b3).mono (by decide)) (ok_mul F.hu F.hu) nn il)
  have d2 := (call3 m_led_line (env := rt q e f x y u s11 (.val (mul (conj x) y).D)) (f := dVar 1) (f2 := dVar 4) (f3 := dVar 5) (d := .int q) (d2 := u.D) (d3 := lnD (lineT q (tbl q e f x))) rfl rfl rfl).trans (ev_led F.hq F.M (F.b3.mono (by decide)) F.hu F.n il)
  have d3 := (call3 m_led_line (env := rt q e f x y u s11 (.val (mul (conj x) y).D)) (f := dVar 1) (f2 := dVar 4) (d := .int q) (d2 := u.D) rfl rfl d2).trans (ev_led F.hq F.M (F.b3.mono (by decide)) F.hu F.n (led_line F.hq))
  rw [led_then F.hq F.M F.hu F.hu F.n il] at d1
  rw [r_andV, c5, Cm.ret_bind]
  simp only [if_true]
  rw [op2 d1 d3, veq_ln, decide_eq_true rfl]
end
theorem par3_all {i j k : Nat} {f1 f2 f3 : DE} {env : Fs.Env} {R : Fs.Env → Prop} (h : (f1 env).AllS fun d1 => (f2 env).AllS fun d2 => (f3 env).AllS fun d3 => R (((env.set i (.val d1)).set j (.val d2)).set k (.val d3))) : (dPar3 i j k f1 f2 f3 env).AllS fun o => ∃ e, o = .nx e ∧ R e := by
  have e : dPar3 i j k f1 f2 f3 env = (f1 env).bind fun d1 => (f2 env).bind fun d2 => (f3 env).bind fun d3 => .ret (.nx (((env.set i (.val d1)).set j (.val d2)).set k (.val d3))) := rfl
  rw [e, Cm.alls_bind]
  refine h.mono fun d1 h1 => ?_
  rw [Cm.alls_bind]
  refine h1.mono fun d2 h2 => ?_
  rw [Cm.alls_bind]
  exact h2.mono fun d3 h3 => (Cm.alls_ret _ _).mpr ⟨_, rfl, h3⟩
theorem right_all : (m_Lright [drwT]).AllS fun d => d = .bool true := by
  have e0 : m_Lright [drwT] = (S_Lright [.val drwT, .no, .no, .no, .no, .no, .no, .no, .no, .no, .no, .no, .no]).bind outD := rfl
  rw [e0, Cm.alls_bind]
  unfold S_Lright
  refine seq_all (fun E => ∃ q, Five q ∧ E = [.val drwT, iv q, .no, .no, .no, .no, .no, .no, .no, .no, .no, .no, .no]) (set_all ?_) ?_
  · rw [call1 m_Ltree_prime (d := drwT) rfl]
    exact prime_all.mono fun d ⟨q, h1, h2⟩ => ⟨q, h2, by rw [h1]; rfl⟩
  rintro _ ⟨q, hq, rfl⟩
  obtain ⟨e, f, M⟩ := marks_ex hq
  refine seq_all (fun E => ∃ x y u : Qt, Fx q e f x y u ∧ E = rv q x y u .no .no .no .no .no .no .no .no) (par3_all ?_) ?_
  · rw [call2 m_Llined (d := drwT) (d2 := .int q) rfl rfl, call2 m_Lfree (d := drwT) (d2 := .int q) rfl rfl]
    refine (lined_all hq M).mono fun d1 ⟨x, e1, hx, lx⟩ => (lined_all hq M).mono fun d2 ⟨y, e2, hy, ly⟩ => (free_all hq).mono fun d3 ⟨u, e3, hu, lu, nu⟩ => ?_
    exact ⟨x, y, u, ⟨hq, M, hx, hy, lx, ly, hu, lu, nu⟩, by rw [e1, e2, e3]; rfl⟩
  rintro _ ⟨x, y, u, F, rfl⟩
  have s5 : dSet 5 (dCallN 2 m_line_of (dCons (dVar 1) (dCons (dVar 2) dNil))) (rv q x y u .no .no .no .no .no .no .no .no) = .ret (.nx (rv q x y u (.val (lnD (lineT q (tbl q e f x)))) .no .no .no .no .no .no .no)) :=
    set_nx ((call2 m_line_of (d := .int q) (d2 := x.D) rfl rfl).trans (ev_lineof F.hq F.M (F.b1.mono (by decide)) F.hx))
  refine seq_nx s5 (seq_nx (ifs_no (s4_e F _ _ _ _ _ _ _)) ?_)
  have s6 : dSet 6 (dCallN 2 m_product (dCons (dVar 2) (dCons (dVar 3) dNil))) (rv q x y u (.val (lnD (lineT q (tbl q e f x)))) .no .no .no .no .no .no .no) = .ret (.nx (rv q x y u (.val (lnD (lineT q (tbl q e f x)))) (.val (mul x y).D) .no .no .no .no .no .no)) :=
    set_nx ((call2 m_product (d := x.D) (d2 := y.D) rfl rfl).trans (ev_productQ (F.b1.mono (by decide)) (F.b2.mono (by decide)) F.hx.ok F.hy.ok))
  refine seq_nx s6 (seq_nx (ifs_no (s6_e F _ _ _ _ _ _)) (seq_nx (s7_e F _ _ _ _ _ _) (seq_nx (ifs_no (s8_e F _ _)) ?_)))
  have il := lineT_isl (t := tbl q e f x) F.hq
  obtain ⟨w, ew, nw, fw, hw, lw, bw⟩ := ev_fol F.hq F.M il
  obtain ⟨m, n, R⟩ := F.hx.r1 F.hq F.M
  obtain ⟨m2, n2, S⟩ := hw.r1 F.hq F.M
  rw [lw] at S
  obtain ⟨s, hs, es⟩ := first_div F.hq F.M F.hx.ok hw.ok il R S nw
  have el := ev_leftof F.hq (F.b1.mono (by decide)) F.hx hw.ok hs nw es fw
  have s11 : dSet 11 (dCallN 2 m_left_of (dCons (dVar 2) (dCons (dVar 1) dNil))) (rt q e f x y u .no .no) = .ret (.nx (rt q e f x y u (.val w.D) .no)) :=
    set_nx ((call2 m_left_of (d := x.D) (d2 := .int q) rfl rfl).trans el)
  refine seq_nx s11 (seq_nx (ifs_no (s10_e F _ ew hw bw lw)) ?_)
  have s12 : dSet 12 (dCallN 2 m_product (dCons (dCallN 1 m_back (dCons (dVar 2) dNil)) (dCons (dVar 3) dNil))) (rt q e f x y u (.val w.D) .no) = .ret (.nx (rt q e f x y u (.val w.D) (.val (mul (conj x) y).D))) :=
    set_nx ((call2 m_product (d2 := y.D) (back_c F _ _) rfl).trans (ev_productQ (F.b1.conj.mono (by decide)) (F.b2.mono (by decide)) (ok_conj F.hx.ok) F.hy.ok))
  refine seq_nx s12 ?_
  rw [r_ret, s12_e F, Cm.ret_bind, Cm.alls_ret]
  exact (Cm.alls_ret _ _).mpr rfl
abbrev en1 (A : List Fs.D) (x2 : Slot) : Fs.Env := [.val (.list A), .val drwT, x2]
theorem math : ∀ ns : List Int, ns.length ≤ 63 → (S_law (env_law ns)).All (fun o => o = .rt (.bool true)) := by
  intro ns hn
  refine Cm.AllS.h ?_
  have he : env_law ns = en1 (ns.map .int) .no := rfl
  rw [he]
  unfold S_law
  rw [r_seq, Cm.alls_bind, r_for]
  have hr : ∃ K, dRng1 (dCons (dOp vAdd (dCst (.int 4)) (dCall cMin2 (dCons (dCall cLen (dCons (dPeek 0) dNil)) (dCons (dCst (.int 9)) dNil)))) dNil) (en1 (ns.map .int) .no) = .ret (rng 0 K) := by
    refine ⟨_, if_pos (show -4611686018427387904 ≤ ((4 : Int) + (if (9:Int) < ((ns.map PyData.int).length : Int) then 9 else ((ns.map PyData.int).length : Int))) ∧ ((4 : Int) + (if (9:Int) < ((ns.map PyData.int).length : Int) then 9 else ((ns.map PyData.int).length : Int))) < 4611686018427387904 from ?_)⟩
    rw [List.length_map]
    split <;> omega
  obtain ⟨K, hK⟩ := hr
  rw [hK, Cm.ret_bind]
  refine Cm.AllS.mono ?_ (forGo_all (Inv := fun E => ∃ s, E = en1 (ns.map .int) s) (P := fun d => d = .bool true) ⟨_, rfl⟩ fun d hd E hE => ?_)
  · intro o ho
    cases o with
    | rt d => rw [Cm.alls_ret]; exact congrArg Out.rt ho
    | nx e =>
      show Cm.AllS _ (dRet (dCst (.bool true)) e)
      rw [r_ret, r_cst, Cm.ret_bind, Cm.alls_ret]
    | bk e => exact ho.elim
    | ct e => exact ho.elim
  · obtain ⟨s, rfl⟩ := hE
    rw [r_gN, Cm.alls_ret]
    unfold B1_law
    rw [r_ifS, Cm.alls_bind, r_notT, Cm.alls_bind, r_tru, Cm.alls_bind, call1 m_Lright (d := drwT) rfl]
    refine right_all.mono fun d hd => ?_
    subst hd
    rw [Cm.alls_ret, Cm.alls_ret]
    show Cm.AllS _ (Cm.ret (Out.nx _))
    rw [Cm.alls_ret]
    exact ⟨_, rfl⟩
end Fw

open PySem PySem.W PyProof.Rows
set_option maxHeartbeats 0 in
theorem PySem.Challenge.cw_foursteps_k68_across_lines_of_products_holds : PySem.Challenge.rw_foursteps_k68_across_lines_of_products.Holds := by
  w_on; o_law; k_head; (case hw => w_witness2)
  k_fill
  refine L2.walk_of (l := PySem.Challenge.rw_foursteps_k68_across_lines_of_products) (n := 63) (k := 8) (x := "script") (CX := fun _ => L2.CX0) (sp := fun w => Fs.spLaw _) rfl (by decide) rfl ⟨rfl, by decide, by decide⟩ (fun w h Y => PySem.W.kIn_of Y) ?F (fun _ _ a ns hl _ hS => ⟨a, ns, rfl, hS, hl, fun _ => rfl⟩) (fun _ _ _ _ _ h => h)
  case F =>
    intro w mg fa h KX G hmg
    refine' Fw.all_mk Fw.math KX G hmg ?a0 ?l0 ?c0 ?k0 ?a1 ?l1 ?c1 ?k1 ?a2 ?l2 ?c2 ?k2 ?a3 ?l3 ?c3 ?k3 ?a4 ?l4 ?c4 ?k4 ?a5 ?l5 ?c5 ?k5 ?a6 ?l6 ?c6 ?k6 ?a7 ?l7 ?c7 ?k7 ?a8 ?l8 ?c8 ?k8 ?a9 ?l9 ?c9 ?k9 ?a10 ?l10 ?c10 ?k10 ?a11 ?l11 ?c11 ?k11 ?a12 ?l12 ?c12 ?k12 ?a13 ?l13 ?c13 ?k13 ?a14 ?l14 ?c14 ?k14 ?a15 ?l15 ?c15 ?k15 ?a16 ?l16 ?c16 ?k16 ?a17 ?l17 ?c17 ?k17 ?a18 ?l18 ?c18 ?k18 ?a19 ?l19 ?c19 ?k19 ?a20 ?l20 ?c20 ?k20 ?a21 ?l21 ?c21 ?k21 ?a22 ?l22 ?c22 ?k22 ?a23 ?l23 ?c23 ?k23 ?a24 ?l24 ?c24 ?k24 ?a25 ?l25 ?c25 ?k25 ?a26 ?l26 ?c26 ?k26 ?a27 ?l27 ?c27 ?k27 ?a28 ?l28 ?c28 ?k28 ?a29 ?l29 ?c29 ?k29 ?a30 ?l30 ?c30 ?k30 ?a31 ?l31 ?c31 ?k31 ?a32 ?l32 ?c32 ?k32 ?a33 ?l33 ?c33 ?k33 ?a34 ?l34 ?c34 ?k34 ?a35 ?l35 ?c35 ?k35 ?a36 ?l36 ?c36 ?k36 ?a37 ?l37 ?c37 ?k37 ?a38 ?l38 ?c38 ?k38 ?a39 ?l39 ?c39 ?k39 ?a40 ?l40 ?c40 ?k40 ?a41 ?l41 ?c41 ?k41 ?a42 ?l42 ?c42 ?k42 ?a43 ?l43 ?c43 ?k43 ?a44 ?l44 ?c44 ?k44 ?a45 ?l45 ?c45 ?k45 ?a46 ?l46 ?c46 ?k46 ?a47 ?l47 ?c47 ?k47 ?a48 ?l48 ?c48 ?k48 ?a49 ?l49 ?c49 ?k49 ?a50 ?l50 ?c50 ?k50 ?a51 ?l51 ?c51 ?k51 ?a52 ?l52 ?c52 ?k52 ?a53 ?l53 ?c53 ?k53 ?a54 ?l54 ?c54 ?k54 ?a55 ?l55 ?c55 ?k55 ?a56 ?l56 ?c56 ?k56 ?a57 ?l57 ?c57 ?k57 ?a58 ?l58 ?c58 ?k58 ?a59 ?l59 ?c59 ?k59 ?a60 ?l60 ?c60 ?k60 ?a61 ?l61 ?c61 ?k61 ?a62 ?l62 ?c62 ?k62 ?a63 ?l63 ?c63 ?k63 ?a64 ?l64 ?c64 ?k64 ?a65 ?l65 ?c65 ?k65 ?a66 ?l66 ?c66 ?k66 ?a67 ?l67 ?c67 ?k67 ?a68 ?l68 ?c68 ?k68 ?z_abs ?z_all ?z_bool ?z_int ?z_isinstance ?z_len ?z_max ?z_min ?z_range ?z_set ?z_sorted ?z_sum ?z_tuple ?z_zip ?z_gcd ?z_FIFTY_DIGITS ?z_MOST_LISTED ?z_MOST_PRIME ?z_NOUGHT ?y_NOUGHT ?x_NOUGHT ?z_PARTS ?z_UNITS ?y_UNITS ?x_UNITS ?y_UNITS_0 ?x_UNITS_0 ?y_UNITS_1 ?x_UNITS_1 ?y_UNITS_2 ?x_UNITS_2 ?y_UNITS_3 ?x_UNITS_3 ?y_UNITS_4 ?x_UNITS_4 ?y_UNITS_5 ?x_UNITS_5 ?y_UNITS_6 ?x_UNITS_6 ?y_UNITS_7 ?x_UNITS_7 ?y_UNITS_8 ?x_UNITS_8 ?y_UNITS_9 ?x_UNITS_9 ?y_UNITS_10 ?x_UNITS_10 ?y_UNITS_11 ?x_UNITS_11 ?y_UNITS_12 ?x_UNITS_12 ?y_UNITS_13 ?x_UNITS_13 ?y_UNITS_14 ?x_UNITS_14 ?y_UNITS_15 ?x_UNITS_15 ?y_UNITS_16 ?x_UNITS_16 ?y_UNITS_17 ?x_UNITS_17 ?y_UNITS_18 ?x_UNITS_18 ?y_UNITS_19 ?x_UNITS_19 ?y_UNITS_20 ?x_UNITS_20 ?y_UNITS_21 ?x_UNITS_21 ?y_UNITS_22 ?x_UNITS_22 ?y_UNITS_23 ?x_UNITS_23
    (case a0 => k_is); (case l0 => k_is); (case c0 => k_is); (case k0 => k_is)
    (case a1 => k_is); (case l1 => k_is); (case c1 => k_is); (case k1 => k_is)
    (case a2 => k_is); (case l2 => k_is); (case c2 => k_is); (case k2 => k_is)
    (case a3 => k_is); (case l3 => k_is); (case c3 => k_is); (case k3 => k_is)
    (case a4 => k_is); (case l4 => k_is); (case c4 => k_is); (case k4 => k_is)
    (case a5 => k_is); (case l5 => k_is); (case c5 => k_is); (case k5 => k_is)
    (case a6 => k_is); (case l6 => k_is); (case c6 => k_is); (case k6 => k_is)
    (case a7 => k_is); (case l7 => k_is); (case c7 => k_is); (case k7 => k_is)
    (case a8 => k_is); (case l8 => k_is); (case c8 => k_is); (case k8 => k_is)
    (case a9 => k_is); (case l9 => k_is); (case c9 => k_is); (case k9 => k_is)
    (case a10 => k_is); (case l10 => k_is); (case c10 => k_is); (case k10 => k_is)
    (case a11 => k_is); (case l11 => k_is); (case c11 => k_is); (case k11 => k_is)
    (case a12 => k_is); (case l12 => k_is); (case c12 => k_is); (case k12 => k_is)
    (case a13 => k_is); (case l13 => k_is); (case c13 => k_is); (case k13 => k_is)
    (case a14 => k_is); (case l14 => k_is); (case c14 => k_is); (case k14 => k_is)
    (case a15 => k_is); (case l15 => k_is); (case c15 => k_is); (case k15 => k_is)
    (case a16 => k_is); (case l16 => k_is); (case c16 => k_is); (case k16 => k_is)
    (case a17 => k_is); (case l17 => k_is); (case c17 => k_is); (case k17 => k_is)
    (case a18 => k_is); (case l18 => k_is); (case c18 => k_is); (case k18 => k_is)
    (case a19 => k_is); (case l19 => k_is); (case c19 => k_is); (case k19 => k_is)
    (case a20 => k_is); (case l20 => k_is); (case c20 => k_is); (case k20 => k_is)
    (case a21 => k_is); (case l21 => k_is); (case c21 => k_is); (case k21 => k_is)
    (case a22 => k_is); (case l22 => k_is); (case c22 => k_is); (case k22 => k_is)
    (case a23 => k_is); (case l23 => k_is); (case c23 => k_is); (case k23 => k_is)
    (case a24 => k_is); (case l24 => k_is); (case c24 => k_is); (case k24 => k_is)
    (case a25 => k_is); (case l25 => k_is); (case c25 => k_is); (case k25 => k_is)
    (case a26 => k_is); (case l26 => k_is); (case c26 => k_is); (case k26 => k_is)
    (case a27 => k_is); (case l27 => k_is); (case c27 => k_is); (case k27 => k_is)
    (case a28 => k_is); (case l28 => k_is); (case c28 => k_is); (case k28 => k_is)
    (case a29 => k_is); (case l29 => k_is); (case c29 => k_is); (case k29 => k_is)
    (case a30 => k_is); (case l30 => k_is); (case c30 => k_is); (case k30 => k_is)
    (case a31 => k_is); (case l31 => k_is); (case c31 => k_is); (case k31 => k_is)
    (case a32 => k_is); (case l32 => k_is); (case c32 => k_is); (case k32 => k_is)
    (case a33 => k_is); (case l33 => k_is); (case c33 => k_is); (case k33 => k_is)
    (case a34 => k_is); (case l34 => k_is); (case c34 => k_is); (case k34 => k_is)
    (case a35 => k_is); (case l35 => k_is); (case c35 => k_is); (case k35 => k_is)
    (case a36 => k_is); (case l36 => k_is); (case c36 => k_is); (case k36 => k_is)
    (case a37 => k_is); (case l37 => k_is); (case c37 => k_is); (case k37 => k_is)
    (case a38 => k_is); (case l38 => k_is); (case c38 => k_is); (case k38 => k_is)
    (case a39 => k_is); (case l39 => k_is); (case c39 => k_is); (case k39 => k_is)
    (case a40 => k_is); (case l40 => k_is); (case c40 => k_is); (case k40 => k_is)
    (case a41 => k_is); (case l41 => k_is); (case c41 => k_is); (case k41 => k_is)
    (case a42 => k_is); (case l42 => k_is); (case c42 => k_is); (case k42 => k_is)
    (case a43 => k_is); (case l43 => k_is); (case c43 => k_is); (case k43 => k_is)
    (case a44 => k_is); (case l44 => k_is); (case c44 => k_is); (case k44 => k_is)
    (case a45 => k_is); (case l45 => k_is); (case c45 => k_is); (case k45 => k_is)
    (case a46 => k_is); (case l46 => k_is); (case c46 => k_is); (case k46 => k_is)
    (case a47 => k_is); (case l47 => k_is); (case c47 => k_is); (case k47 => k_is)
    (case a48 => k_is); (case l48 => k_is); (case c48 => k_is); (case k48 => k_is)
    (case a49 => k_is); (case l49 => k_is); (case c49 => k_is); (case k49 => k_is)
    (case a50 => k_is); (case l50 => k_is); (case c50 => k_is); (case k50 => k_is)
    (case a51 => k_is); (case l51 => k_is); (case c51 => k_is); (case k51 => k_is)
    (case a52 => k_is); (case l52 => k_is); (case c52 => k_is); (case k52 => k_is)
    (case a53 => k_is); (case l53 => k_is); (case c53 => k_is); (case k53 => k_is)
    (case a54 => k_is); (case l54 => k_is); (case c54 => k_is); (case k54 => k_is)
    (case a55 => k_is); (case l55 => k_is); (case c55 => k_is); (case k55 => k_is)
    (case a56 => k_is); (case l56 => k_is); (case c56 => k_is); (case k56 => k_is)
    (case a57 => k_is); (case l57 => k_is); (case c57 => k_is); (case k57 => k_is)
    (case a58 => k_is); (case l58 => k_is); (case c58 => k_is); (case k58 => k_is)
    (case a59 => k_is); (case l59 => k_is); (case c59 => k_is); (case k59 => k_is)
    (case a60 => k_is); (case l60 => k_is); (case c60 => k_is); (case k60 => k_is)
    (case a61 => k_is); (case l61 => k_is); (case c61 => k_is); (case k61 => k_is)
    (case a62 => k_is); (case l62 => k_is); (case c62 => k_is); (case k62 => k_is)
    (case a63 => k_is); (case l63 => k_is); (case c63 => k_is); (case k63 => k_is)
    (case a64 => k_is); (case l64 => k_is); (case c64 => k_is); (case k64 => k_is)
    (case a65 => k_is); (case l65 => k_is); (case c65 => k_is); (case k65 => k_is)
    (case a66 => k_is); (case l66 => k_is); (case c66 => k_is); (case k66 => k_is)
    (case a67 => k_is); (case l67 => k_is); (case c67 => k_is); (case k67 => k_is)
    (case a68 => k_is); (case l68 => k_is); (case c68 => k_is); (case k68 => k_is)
    (case z_abs => k_is); (case z_all => k_is); (case z_bool => k_is); (case z_int => k_is)
    (case z_isinstance => k_is); (case z_len => k_is); (case z_max => k_is); (case z_min => k_is)
    (case z_range => k_is); (case z_set => k_is); (case z_sorted => k_is); (case z_sum => k_is)
    (case z_tuple => k_is); (case z_zip => k_is); (case z_gcd => k_is); (case z_FIFTY_DIGITS => k_is)
    (case z_MOST_LISTED => k_is); (case z_MOST_PRIME => k_is); (case z_NOUGHT => k_is); (case y_NOUGHT => k_is)
    (case x_NOUGHT => rfl); (case z_PARTS => k_is); (case z_UNITS => k_is); (case y_UNITS => k_is)
    (case x_UNITS => rfl); (case y_UNITS_0 => k_is); (case x_UNITS_0 => rfl); (case y_UNITS_1 => k_is)
    (case x_UNITS_1 => rfl); (case y_UNITS_2 => k_is); (case x_UNITS_2 => rfl); (case y_UNITS_3 => k_is)
    (case x_UNITS_3 => rfl); (case y_UNITS_4 => k_is); (case x_UNITS_4 => rfl); (case y_UNITS_5 => k_is)
    (case x_UNITS_5 => rfl); (case y_UNITS_6 => k_is); (case x_UNITS_6 => rfl); (case y_UNITS_7 => k_is)
    (case x_UNITS_7 => rfl); (case y_UNITS_8 => k_is); (case x_UNITS_8 => rfl); (case y_UNITS_9 => k_is)
    (case x_UNITS_9 => rfl); (case y_UNITS_10 => k_is); (case x_UNITS_10 => rfl); (case y_UNITS_11 => k_is)
    (case x_UNITS_11 => rfl); (case y_UNITS_12 => k_is); (case x_UNITS_12 => rfl); (case y_UNITS_13 => k_is)
    (case x_UNITS_13 => rfl); (case y_UNITS_14 => k_is); (case x_UNITS_14 => rfl); (case y_UNITS_15 => k_is)
    (case x_UNITS_15 => rfl); (case y_UNITS_16 => k_is); (case x_UNITS_16 => rfl); (case y_UNITS_17 => k_is)
    (case x_UNITS_17 => rfl); (case y_UNITS_18 => k_is); (case x_UNITS_18 => rfl); (case y_UNITS_19 => k_is)
    (case x_UNITS_19 => rfl); (case y_UNITS_20 => k_is); (case x_UNITS_20 => rfl); (case y_UNITS_21 => k_is)
    (case x_UNITS_21 => rfl); (case y_UNITS_22 => k_is); (case x_UNITS_22 => rfl); (case y_UNITS_23 => k_is)
    (case x_UNITS_23 => rfl)
