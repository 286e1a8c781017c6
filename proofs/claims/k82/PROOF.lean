import PyProof.Rows.All
import Wide.All
import OpenK.AllK
import Wide.FinOn
import HandS.ForMost
import HandS.Wide
import HandS.Gcd
import HandS.IsInst
import HandS.Deep
import HandS.Style
import HandS.Zip
import KE.GoesZip
import KE.GoesMore
import KE.KDictZip
import HandS.RevTup
import HandS.Rev
import KE.GoesEnum
import PySem.Challenge.RW_foursteps_k82_across_turns_over_a_prime
set_option Elab.async false
set_option linter.all false
set_option maxRecDepth 100000
set_option maxHeartbeats 2000000
set_option autoImplicit false
/-! # The layer Fs: a def's body computes a plain function over data -/
namespace Fs
open PySem PySem.Spec PyProof.Rows L2

abbrev D := PyData

/-! ### computations: a result, none, or one number drawn below n -/
inductive Cm (α : Type) where
  | ret (a : α)
  | bad
  | ask (n : Nat) (k : Nat → Cm α)
  | anyI (k : Int → Cm α)
namespace Cm
variable {α β γ : Type}
def bind : Cm α → (α → Cm β) → Cm β
  | .ret a, f => f a
  | .bad, _ => .bad
  | .ask n k, f => .ask n fun r => bind (k r) f
  | .anyI k, f => .anyI fun r => bind (k r) f
def All (P : α → Prop) : Cm α → Prop
  | .ret a => P a
  | .bad => False
  | .ask n k => ∀ r, r < n → All P (k r)
  | .anyI k => ∀ r, All P (k r)
@[simp] theorem ret_bind (a : α) (f : α → Cm β) : (Cm.ret a).bind f = f a := rfl
@[simp] theorem bad_bind (f : α → Cm β) : (Cm.bad : Cm α).bind f = .bad := rfl
@[simp] theorem ask_bind (n : Nat) (k : Nat → Cm α) (f : α → Cm β) : (Cm.ask n k).bind f = .ask n fun r => (k r).bind f := rfl
@[simp] theorem all_ret (P : α → Prop) (a : α) : (Cm.ret a).All P = P a := rfl
@[simp] theorem all_bad (P : α → Prop) : (Cm.bad : Cm α).All P = False := rfl
@[simp] theorem all_ask (P : α → Prop) (n : Nat) (k : Nat → Cm α) : (Cm.ask n k).All P = ∀ r, r < n → (k r).All P := rfl
theorem All.mono {P Q : α → Prop} (h : ∀ a, P a → Q a) : ∀ {m : Cm α}, m.All P → m.All Q
  | .ret _, p => h _ p
  | .bad, p => p
  | .ask _ _, p => fun r hr => All.mono h (p r hr)
  | .anyI _, p => fun r => All.mono h (p r)
theorem all_bind {P : β → Prop} {f : α → Cm β} : ∀ {m : Cm α}, (m.bind f).All P ↔ m.All fun a => (f a).All P
  | .ret _ => Iff.rfl
  | .bad => Iff.rfl
  | .ask _ _ => ⟨fun h r hr => all_bind.mp (h r hr), fun h r hr => all_bind.mpr (h r hr)⟩
  | .anyI _ => ⟨fun h r => all_bind.mp (h r), fun h r => all_bind.mpr (h r)⟩
theorem bind_assoc (f : α → Cm β) (g : β → Cm γ) : ∀ m : Cm α, (m.bind f).bind g = m.bind fun a => (f a).bind g
  | .ret _ => rfl
  | .bad => rfl
  | .ask n k => congrArg (Cm.ask n) (funext fun r => bind_assoc f g (k r))
  | .anyI k => congrArg Cm.anyI (funext fun r => bind_assoc f g (k r))
@[simp] theorem bind_ret : ∀ m : Cm α, m.bind .ret = m
  | .ret _ => rfl
  | .bad => rfl
  | .ask n k => congrArg (Cm.ask n) (funext fun r => bind_ret (k r))
  | .anyI k => congrArg Cm.anyI (funext fun r => bind_ret (k r))
end Cm

/-! ### slots -/
inductive Slot where
  | no
  | val (d : D)
  | own (d : D)
abbrev Env := List Slot
abbrev DE := Env → Cm D
abbrev DEs := Env → Cm (List D)
abbrev DT := Env → Cm Bool
/-- the draws' object, as data -/
def drwT : D := .dict [(.none, .none)]

/-! ### the draws' objects -/
structure Dr where
  a : Addr
  l : Addr
  c : Addr
def Dr.has (dr : Dr) (x : Addr) : Prop := x = dr.a ∨ x = dr.l ∨ x = dr.c
def DrawOk (dr : Dr) (H : Hp) : Prop := ∃ (large cells : List Int) (rest turn : Int),
  H dr.a = some (.dK [(Sum.inr "large", .ref dr.l), (Sum.inr "rest", .int rest), (Sum.inr "cells", .ref dr.c), (Sum.inr "turn", .int turn)]) ∧
  H dr.l = some (.lst (large.map V.int)) ∧ H dr.c = some (.lst (cells.map V.int)) ∧ dr.l ≠ dr.c

/-! ### data that stand in a part F of the heap -/
theorem rd_up {F F' : Hp} (h : ∀ a o, F a = some o → F' a = some o) {a : Addr} {u : HO} (r : Rd F a u) : Rd F' a u := by
  rcases r with r | ⟨o, r⟩
  · exact .inl (h _ _ r)
  · exact .inr ⟨o, h _ _ r⟩
theorem sql_up {K : PySem.W.Frag} {F F' : Hp} (h : ∀ a o, F a = some o → F' a = some o) {a : Addr} {xs : List V} (r : SqL K F a xs) : SqL K F' a xs := by
  rcases r with r | r
  · exact .inl (rd_up h r)
  · exact .inr r
theorem sqt_up {K : PySem.W.Frag} {F F' : Hp} (h : ∀ a o, F a = some o → F' a = some o) {a : Addr} {xs : List V} (r : SqT K F a xs) : SqT K F' a xs := by
  rcases r with r | r
  · exact .inl (rd_up h r)
  · exact .inr r
mutual
theorem dp_up {K : PySem.W.Frag} {F F' : Hp} (h : ∀ a o, F a = some o → F' a = some o) : ∀ (d : PyData) (v : V), Dp K F v d → Dp K F' v d
  | .none, _, r => by cases r; exact .non
  | .bool b, _, r => by cases r; exact .bl b
  | .int i, _, r => by cases r; exact .int i
  | .str x, _, r => by cases r; exact .str x
  | .list ds, _, r => by
    cases r with
    | lst hs ha => exact .lst (sql_up h hs) (dpa_up h ds _ ha)
  | .tuple ds, _, r => by
    cases r with
    | tup hs ha => exact .tup (sqt_up h hs) (dpa_up h ds _ ha)
  | .dict _, _, r => by cases r
theorem dpa_up {K : PySem.W.Frag} {F F' : Hp} (h : ∀ a o, F a = some o → F' a = some o) : ∀ (ds : List PyData) (vs : List V), DpAll K F vs ds → DpAll K F' vs ds
  | [], _, r => by cases r; exact .nil
  | d :: ds, _, r => by
    cases r with
    | cons h1 h2 => exact .cons (dp_up h d _ h1) (dpa_up h ds _ h2)
end
theorem dpa_len {K : PySem.W.Frag} {F : Hp} : ∀ {vs : List V} {ds : List PyData}, DpAll K F vs ds → vs.length = ds.length
  | _, _, .nil => rfl
  | _, _, .cons _ t => congrArg (· + 1) (dpa_len t)
theorem dpa_get {K : PySem.W.Frag} {F : Hp} : ∀ {vs : List V} {ds : List PyData} {i : Nat} {d : PyData}, DpAll K F vs ds → ds[i]? = some d → ∃ v, vs[i]? = some v ∧ Dp K F v d
  | _, _, _, _, .nil, e => by simp at e
  | _, _, 0, _, .cons r _, e => by simp at e; subst e; exact ⟨_, rfl, r⟩
  | _, _, i + 1, d, .cons _ t, e => by
    obtain ⟨v, h1, h2⟩ := dpa_get (i := i) (d := d) t (by simpa using e)
    exact ⟨v, by simpa using h1, h2⟩
theorem dpa_getV {K : PySem.W.Frag} {F : Hp} : ∀ {vs : List V} {ds : List PyData} {i : Nat} {v : V}, DpAll K F vs ds → vs[i]? = some v → ∃ d, ds[i]? = some d ∧ Dp K F v d
  | _, _, _, _, .nil, e => by simp at e
  | _, _, 0, _, .cons r _, e => by simp at e; subst e; exact ⟨_, rfl, r⟩
  | _, _, i + 1, d, .cons _ t, e => by
    obtain ⟨v, h1, h2⟩ := dpa_getV (i := i) (v := d) t (by simpa using e)
    exact ⟨v, by simpa using h1, h2⟩
theorem dpa_app {K : PySem.W.Frag} {F : Hp} : ∀ {vs ws : List V} {ds es : List PyData}, DpAll K F vs ds → DpAll K F ws es → DpAll K F (vs ++ ws) (ds ++ es)
  | _, _, _, _, .nil, h => h
  | _, _, _, _, .cons r t, h => .cons r (dpa_app t h)

inductive Rp (K : PySem.W.Frag) (dr : Dr) (F : Hp) : V → D → Prop where
  | dp {v : V} {d : D} : Dp K F v d → Rp K dr F v d
  | drw : Rp K dr F (.ref dr.a) drwT
theorem Rp.up {K : PySem.W.Frag} {dr : Dr} {F F' : Hp} {v : V} {d : D} (h : ∀ a o, F a = some o → F' a = some o) (r : Rp K dr F v d) : Rp K dr F' v d := by
  cases r with
  | dp r => exact .dp (dp_up h _ _ r)
  | drw => exact .drw
/-- a list or a dict of the body's own, that it may change -/
def OwnAt (K : PySem.W.Frag) (F H : Hp) (p : Addr) : D → Prop
  | .list ds => ∃ vs, H p = some (.lst vs) ∧ DpAll K F vs ds
  | .dict kvs => ∃ ks : List (Key × V), H p = some (.dK ks) ∧ Paired (fun (x : Key × V) (y : D × D) => Dp K F (kV x.1) y.1 ∧ Dp K F x.2 y.2) ks kvs
  | _ => False

structure Stt (dr : Dr) (F H : Hp) : Prop where
  sub : ∀ a o, F a = some o → H a = some o
  drw : DrawOk dr H
  nodr : ∀ a, dr.has a → F a = none
structure Step (dr : Dr) (F H F' H' : Hp) : Prop where
  up : ∀ a o, F a = some o → F' a = some o
  keep : ∀ a o, ¬ dr.has a → H a = some o → H' a = some o
  new : ∀ a o, F' a = some o → F a = some o ∨ H a = none
theorem Step.refl {dr : Dr} {F H : Hp} : Step dr F H F H := ⟨fun _ _ h => h, fun _ _ _ h => h, fun _ _ h => .inl h⟩
theorem Step.trans {dr : Dr} {F H F1 H1 F2 H2 : Hp} (a : Step dr F H F1 H1) (b : Step dr F1 H1 F2 H2) (s : Stt dr F2 H2) : Step dr F H F2 H2 where
  up := fun x o h => b.up x o (a.up x o h)
  keep := fun x o n h => b.keep x o n (a.keep x o n h)
  new := fun x o h => by
    rcases b.new x o h with h1 | h1
    · exact a.new x o h1
    · right
      have nd : ¬ dr.has x := fun z => by rw [s.nodr x z] at h; cases h
      cases q : H x with
      | none => rfl
      | some u => rw [a.keep x u nd q] at h1; cases h1
inductive Bp (K : PySem.W.Frag) (dr : Dr) (F H : Hp) : V → D → Prop where
  | r {v : V} {d : D} : Rp K dr F v d → Bp K dr F H v d
  | own {p : Addr} {d : D} : F p = none → ¬ dr.has p → OwnAt K F H p d → Bp K dr F H (.ref p) d
theorem paired_mono {α β : Type} {R S : α → β → Prop} (h : ∀ a b, R a b → S a b) : ∀ {xs : List α} {ys : List β}, Paired R xs ys → Paired S xs ys
  | _, _, .nil => .nil
  | _, _, .cons r t => .cons (h _ _ r) (paired_mono h t)
theorem OwnAt.step {K : PySem.W.Frag} {dr : Dr} {F H F' H' : Hp} {p : Addr} {d : D} (S : Step dr F H F' H') (nd : ¬ dr.has p) (h : OwnAt K F H p d) : OwnAt K F' H' p d := by
  cases d with
  | list ds => obtain ⟨vs, e, r⟩ := h; exact ⟨vs, S.keep _ _ nd e, dpa_up S.up _ _ r⟩
  | dict kvs => obtain ⟨vs, e, r⟩ := h; exact ⟨vs, S.keep _ _ nd e, paired_mono (fun _ _ q => ⟨dp_up S.up _ _ q.1, dp_up S.up _ _ q.2⟩) r⟩
  | none => exact h
  | bool _ => exact h
  | int _ => exact h
  | str _ => exact h
  | tuple _ => exact h
theorem OwnAt.there {K : PySem.W.Frag} {F H : Hp} {p : Addr} {d : D} (h : OwnAt K F H p d) : ∃ o, H p = some o := by
  cases d with
  | list ds => obtain ⟨vs, e, r⟩ := h; exact ⟨_, e⟩
  | dict kvs => obtain ⟨vs, e, r⟩ := h; exact ⟨_, e⟩
  | none => exact h.elim
  | bool _ => exact h.elim
  | int _ => exact h.elim
  | str _ => exact h.elim
  | tuple _ => exact h.elim
theorem Step.still {dr : Dr} {F H F' H' : Hp} {p : Addr} {o : HO} (S : Step dr F H F' H') (f : F p = none) (h : H p = some o) : F' p = none := by
  cases q : F' p with
  | none => rfl
  | some u =>
    rcases S.new p u q with z | z
    · rw [f] at z; cases z
    · rw [h] at z; cases z
theorem Bp.step {K : PySem.W.Frag} {dr : Dr} {F H F' H' : Hp} {v : V} {d : D} (S : Step dr F H F' H') (h : Bp K dr F H v d) : Bp K dr F' H' v d := by
  cases h with
  | r h => exact .r (h.up S.up)
  | own f n o =>
    obtain ⟨u, e⟩ := o.there
    exact .own (S.still f e) n (o.step S n)

/-! ### slots and their data -/
def SlotOk (K : PySem.W.Frag) (dr : Dr) (B F H : Hp) (o : Option V) : Slot → Prop
  | .no => True
  | .val d => ∃ v, o = some v ∧ Rp K dr F v d
  | .own d => ∃ p, o = some (.ref p) ∧ B p = none ∧ F p = none ∧ ¬ dr.has p ∧ OwnAt K F H p d
structure Rs (K : PySem.W.Frag) (dr : Dr) (B F H : Hp) (σ : L2.St) (env : Env) : Prop where
  len : σ.length = env.length
  ok : ∀ (i : Nat) (s : Slot), env[i]? = some s → ∃ o, σ[i]? = some o ∧ SlotOk K dr B F H o s
  apart : ∀ (i j : Nat) (p : Addr) (d e : D), env[i]? = some (.own d) → env[j]? = some (.own e) → σ[i]? = some (some (.ref p)) → σ[j]? = some (some (.ref p)) → i = j
theorem SlotOk.step {K : PySem.W.Frag} {dr : Dr} {B F H F' H' : Hp} {o : Option V} {s : Slot} (S : Step dr F H F' H') (h : SlotOk K dr B F H o s) : SlotOk K dr B F' H' o s := by
  cases s with
  | no => trivial
  | val d => obtain ⟨v, e, r⟩ := h; exact ⟨v, e, r.up S.up⟩
  | own d =>
    obtain ⟨p, e, b, f, n, r⟩ := h
    obtain ⟨u, q⟩ := r.there
    exact ⟨p, e, b, S.still f q, n, r.step S n⟩
theorem Rs.step {K : PySem.W.Frag} {dr : Dr} {B F H F' H' : Hp} {σ : L2.St} {env : Env} (S : Step dr F H F' H') (h : Rs K dr B F H σ env) : Rs K dr B F' H' σ env :=
  ⟨h.len, fun i s e => let ⟨o, a, b⟩ := h.ok i s e; ⟨o, a, b.step S⟩, h.apart⟩

/-! ### readings -/
def tE (K : PySem.W.Frag) (f : DE) : TE := fun σ H Q => ∃ dr B F env, Stt dr F H ∧ Rs K dr B F H σ env ∧
  (f env).All fun d => ∀ v F' H', Step dr F H F' H' → Stt dr F' H' → Rp K dr F' v d → Q v H'
/-- .. the value may be an own list, looked at -/
def tB (K : PySem.W.Frag) (f : DE) : TE := fun σ H Q => ∃ dr B F env, Stt dr F H ∧ Rs K dr B F H σ env ∧
  (f env).All fun d => ∀ v F' H', Step dr F H F' H' → Stt dr F' H' → Bp K dr F' H' v d → Q v H'
def tT (K : PySem.W.Frag) (f : DT) : TT := fun σ H Q => ∃ dr B F env, Stt dr F H ∧ Rs K dr B F H σ env ∧
  (f env).All fun b => ∀ F' H', Step dr F H F' H' → Stt dr F' H' → Q b H'
def tA (K : PySem.W.Frag) (f : DEs) : TA := fun σ H Q => ∃ dr B F env, Stt dr F H ∧ Rs K dr B F H σ env ∧
  (f env).All fun ds => ∀ vs F' H', Step dr F H F' H' → Stt dr F' H' → Paired (Rp K dr F') vs ds → Q vs H'
def tAb (K : PySem.W.Frag) (f : DEs) : TA := fun σ H Q => ∃ dr B F env, Stt dr F H ∧ Rs K dr B F H σ env ∧
  (f env).All fun ds => ∀ vs F' H', Step dr F H F' H' → Stt dr F' H' → Paired (Bp K dr F' H') vs ds → Q vs H'
theorem pe_imp {X : Cx} {e : Expr} {t t' : TE} (h : PE X e t) (i : ∀ σ H Q, t' σ H Q → t σ H Q) : PE X e t' := ⟨fun p s σ H Q I q => h.run p s σ H Q I (i _ _ _ q)⟩
theorem pt_imp {X : Cx} {e : Expr} {t t' : TT} (h : PT X e t) (i : ∀ σ H Q, t' σ H Q → t σ H Q) : PT X e t' := ⟨fun p s σ H Q I q => h.run p s σ H Q I (i _ _ _ q)⟩
theorem pw_imp {X : Cx} {e : Expr} {t t' : TT} (h : PW X e t) (i : ∀ σ H Q, t' σ H Q → t σ H Q) : PW X e t' := ⟨fun w p s σ H Q I q => h.run w p s σ H Q I (i _ _ _ q)⟩
theorem pa_imp {X : Cx} {e : List Expr} {t t' : TA} (h : PA X e t) (i : ∀ σ H Q, t' σ H Q → t σ H Q) : PA X e t' := ⟨fun x p s σ H Q I q => h.run x p s σ H Q I (i _ _ _ q)⟩
theorem ps_imp {X : Cx} {e : Stmt} {t t' : TS} (h : PS X e t) (i : ∀ D σ H, t' D σ H → t D σ H) : PS X e t' := ⟨fun p s σ H D I q => h.run p s σ H D I (i _ _ _ q)⟩
theorem pss_imp {X : Cx} {e : List Stmt} {t t' : TS} (h : PSs X e t) (i : ∀ D σ H, t' D σ H → t D σ H) : PSs X e t' := ⟨fun p s σ H D I q => h.run p s σ H D I (i _ _ _ q)⟩

section
variable {X : Cx} {e a b c : Expr} {f f1 f2 f3 : DE} {pos : Pos}
/-- what is not an own list may be looked at -/
theorem e_b (h : PE X e (tE X.K f)) : PE X e (tB X.K f) := pe_imp h fun σ H Q ⟨dr, B, F, env, s, r, q⟩ =>
  ⟨dr, B, F, env, s, r, Cm.All.mono (fun d k v F' H' S T z => k v F' H' S T (.r z)) q⟩

/-! ### names, constants -/
def dVar (i : Nat) : DE := fun env => match env[i]? with
  | some (.val d) => .ret d
  | _ => .bad
def dPeek (i : Nat) : DE := fun env => match env[i]? with
  | some (.val d) => .ret d
  | some (.own d) => .ret d
  | _ => .bad
def dCst (d : D) : DE := fun _ => .ret d
theorem e_var {i : Nat} (h : PE X e (tVar i)) : PE X e (tE X.K (dVar i)) := pe_imp h fun σ H Q ⟨dr, B, F, env, s, r, q⟩ => by
  unfold dVar at q
  split at q
  · rename_i d hd
    obtain ⟨o, ho, v, hv, rv⟩ := r.ok i _ hd
    subst hv
    exact ⟨v, ho, q v F H .refl s rv⟩
  · exact q.elim
theorem b_var {i : Nat} (h : PE X e (tVar i)) : PE X e (tB X.K (dPeek i)) := pe_imp h fun σ H Q ⟨dr, B, F, env, s, r, q⟩ => by
  unfold dPeek at q
  split at q
  · rename_i d hd
    obtain ⟨o, ho, v, hv, rv⟩ := r.ok i _ hd
    subst hv
    exact ⟨v, ho, q v F H .refl s (.r rv)⟩
  · rename_i d hd
    obtain ⟨o, ho, p, hv, hb, hf, hn, rv⟩ := r.ok i _ hd
    subst hv
    exact ⟨_, ho, q _ F H .refl s (.own hf hn rv)⟩
  · exact q.elim
theorem e_int {i : Int} {j : Nat} : PE X (.Constant (.int i) j pos) (tE X.K (dCst (.int i))) := pe_imp pe_int fun σ H Q ⟨dr, B, F, env, s, r, q⟩ => q _ F H .refl s (.dp (.int i))
theorem e_bl {i : Bool} {j : Nat} : PE X (.Constant (.bool i) j pos) (tE X.K (dCst (.bool i))) := pe_imp pe_bl fun σ H Q ⟨dr, B, F, env, s, r, q⟩ => q _ F H .refl s (.dp (.bl i))
theorem e_non {j : Nat} : PE X (.Constant .none j pos) (tE X.K (dCst .none)) := pe_imp pe_non fun σ H Q ⟨dr, B, F, env, s, r, q⟩ => q _ F H .refl s (.dp .non)
theorem e_str {i : Str} {j : Nat} : PE X (.Constant (.str i) j pos) (tE X.K (dCst (.str i))) := pe_imp pe_str fun σ H Q ⟨dr, B, F, env, s, r, q⟩ => q _ F H .refl s (.dp (.str i))
/-- a module's constant: its data stand in the written part -/
theorem e_glob {v : V} {d : D} (h : PE X e (tC v)) (hd : ∀ F, Dp X.K F v d) : PE X e (tE X.K (dCst d)) := pe_imp h fun σ H Q ⟨dr, B, F, env, s, r, q⟩ => q _ F H .refl s (.dp (hd F))

/-! ### operators by values -/
def rD2 (K : PySem.W.Frag) (g : D → D → Cm D) : R2 := fun x y H Q => ∃ dr F dx dy, Stt dr F H ∧ Bp K dr F H x dx ∧ Bp K dr F H y dy ∧
  (g dx dy).All fun d => ∀ v F' H', Step dr F H F' H' → Stt dr F' H' → Rp K dr F' v d → Q v H'
def rD1 (K : PySem.W.Frag) (g : D → Cm D) : V → Hp → VK → Prop := fun x H Q => ∃ dr F dx, Stt dr F H ∧ Bp K dr F H x dx ∧
  (g dx).All fun d => ∀ v F' H', Step dr F H F' H' → Stt dr F' H' → Rp K dr F' v d → Q v H'
def rDs (K : PySem.W.Frag) (g : List D → Cm D) : List V → Hp → VK → Prop := fun xs H Q => ∃ dr F ds, Stt dr F H ∧ Paired (Bp K dr F H) xs ds ∧
  (g ds).All fun d => ∀ v F' H', Step dr F H F' H' → Stt dr F' H' → Rp K dr F' v d → Q v H'
def dOp (g : D → D → Cm D) (f1 f2 : DE) : DE := fun env => (f1 env).bind fun x => (f2 env).bind fun y => g x y
def dUn (g : D → Cm D) (f1 : DE) : DE := fun env => (f1 env).bind fun x => g x
def dCall (g : List D → Cm D) (fs : DEs) : DE := fun env => (fs env).bind g
theorem op_red {K : PySem.W.Frag} {g : D → D → Cm D} {σ : L2.St} {H : Hp} {Q : VK} (h : tE K (dOp g f1 f2) σ H Q) : tOp (rD2 K g) (tB K f1) (tB K f2) σ H Q := by
  obtain ⟨dr, B, F, env, s, r, q⟩ := h
  refine ⟨dr, B, F, env, s, r, Cm.All.mono (fun x k v F1 H1 S1 T1 b1 => ?_) (Cm.all_bind.mp q)⟩
  refine ⟨dr, B, F1, env, T1, r.step S1, Cm.All.mono (fun y k2 u F2 H2 S2 T2 b2 => ?_) (Cm.all_bind.mp k)⟩
  exact ⟨dr, F2, x, y, T2, b1.step S2, b2, Cm.All.mono (fun d k3 w F3 H3 S3 T3 => k3 w F3 H3 (S1.trans (S2.trans S3 T3) T3) T3) k2⟩
theorem e_op {op : Operator} {g : D → D → Cm D} (ho : OpR X (binaryOp op) (rD2 X.K g)) (ha : PE X a (tB X.K f1)) (hb : PE X b (tB X.K f2)) : PE X (.BinOp a op b pos) (tE X.K (dOp g f1 f2)) :=
  pe_imp (pe_op ho ha hb) fun _ _ _ h => op_red h
theorem e_un {op : UnaryOp} {g : D → Cm D} (ho : UnR X (unaryOp op) (rD1 X.K g)) (ha : PE X a (tB X.K f1)) : PE X (.UnaryOp op a pos) (tE X.K (dUn g f1)) :=
  pe_imp (pe_un ho ha) fun _ _ _ h => by
    obtain ⟨dr, B, F, env, s, r, q⟩ := h
    refine ⟨dr, B, F, env, s, r, Cm.All.mono (fun x k v F1 H1 S1 T1 b1 => ?_) (Cm.all_bind.mp q)⟩
    exact ⟨dr, F1, x, T1, b1, Cm.All.mono (fun d k3 w F3 H3 S3 T3 => k3 w F3 H3 (S1.trans S3 T3) T3) k⟩
theorem e_cmp {op : CmpOp} {g : D → D → Cm D} (ho : OpR X (compareOp op) (rD2 X.K g)) (ha : PE X a (tB X.K f1)) (hb : PE X b (tB X.K f2)) (hm : behindInMarks op b = false) : PE X (.Compare a [op] [b] pos) (tE X.K (dOp g f1 f2)) :=
  pe_imp (pe_cmpR ho ha hb hm) fun _ _ _ h => op_red h
def dTru (f : DE) : DT := fun env => (f env).bind fun d => match d with
  | .bool b => .ret b
  | _ => .bad
theorem tru_red {K : PySem.W.Frag} {σ : L2.St} {H : Hp} {Q : Bool → Hp → Prop} (h : tT K (dTru f) σ H Q) : tE K f σ H fun x H' => ∃ k, x = .bl k ∧ Q k H' := by
  obtain ⟨dr, B, F, env, s, r, q⟩ := h
  refine ⟨dr, B, F, env, s, r, Cm.All.mono (fun x k v F1 H1 S1 T1 b1 => ?_) (Cm.all_bind.mp q)⟩
  cases x with
  | bool b =>
    cases b1 with
    | dp z => cases z; exact ⟨b, rfl, k F1 H1 S1 T1⟩
  | none => exact k.elim
  | int _ => exact k.elim
  | str _ => exact k.elim
  | list _ => exact k.elim
  | tuple _ => exact k.elim
  | dict _ => exact k.elim
theorem t_cmp {op : CmpOp} {g : D → D → Cm D} (ho : OpR X (compareOp op) (rD2 X.K g)) (ha : PE X a (tB X.K f1)) (hb : PE X b (tB X.K f2)) (hm : behindInMarks op b = false) : PT X (.Compare a [op] [b] pos) (tT X.K (dTru (dOp g f1 f2))) :=
  pt_imp (pt_cmpR ho ha hb hm) fun _ _ _ h => by
    have z := tru_red h
    exact op_red z
/-- a value that is a bool, as a test -/
theorem t_val (h : PE X e (tE X.K f)) (he : ∀ whole, isTrue e X.env whole = (do let v ← whole; standAt e.pos; holding [v] (truthy v)) := by intro _; rfl) : PT X e (tT X.K (dTru f)) :=
  pt_imp (pt_val h he) fun _ _ _ z => tru_red z

/-! ### and, or, not, if -/
def dAndT (t u : DT) : DT := fun env => (t env).bind fun b => if b then u env else .ret false
def dOrT (t u : DT) : DT := fun env => (t env).bind fun b => if b then .ret true else u env
def dNotT (t : DT) : DT := fun env => (t env).bind fun b => .ret (!b)
def dIf (t : DT) (f g : DE) : DE := fun env => (t env).bind fun b => if b then f env else g env
def dBool (t : DT) : DE := fun env => (t env).bind fun b => .ret (.bool b)
variable {t u : DT} {rest : List Expr}
theorem w_and1 (ha : PT X a (tT X.K t)) : PW X (.BoolOp .And [a] pos) (tT X.K t) := pw_and1 ha
theorem w_or1 (ha : PT X a (tT X.K t)) : PW X (.BoolOp .Or [a] pos) (tT X.K t) := pw_or1 ha
theorem w_and (ha : PT X a (tT X.K t)) (hb : PW X (.BoolOp .And (b :: rest) pos) (tT X.K u)) : PW X (.BoolOp .And (a :: b :: rest) pos) (tT X.K (dAndT t u)) :=
  pw_imp (pw_and ha hb) fun σ H Q ⟨dr, B, F, env, s, r, q⟩ => ⟨dr, B, F, env, s, r, Cm.All.mono (fun c k F1 H1 S1 T1 => by
    cases c with
    | true => exact ⟨dr, B, F1, env, T1, r.step S1, Cm.All.mono (fun d k3 F3 H3 S3 T3 => k3 F3 H3 (S1.trans S3 T3) T3) k⟩
    | false => exact k F1 H1 S1 T1) (Cm.all_bind.mp q)⟩
theorem w_or (ha : PT X a (tT X.K t)) (hb : PW X (.BoolOp .Or (b :: rest) pos) (tT X.K u)) : PW X (.BoolOp .Or (a :: b :: rest) pos) (tT X.K (dOrT t u)) :=
  pw_imp (pw_or ha hb) fun σ H Q ⟨dr, B, F, env, s, r, q⟩ => ⟨dr, B, F, env, s, r, Cm.All.mono (fun c k F1 H1 S1 T1 => by
    cases c with
    | false => exact ⟨dr, B, F1, env, T1, r.step S1, Cm.All.mono (fun d k3 F3 H3 S3 T3 => k3 F3 H3 (S1.trans S3 T3) T3) k⟩
    | true => exact k F1 H1 S1 T1) (Cm.all_bind.mp q)⟩
theorem t_not (ha : PT X a (tT X.K t)) : PT X (.UnaryOp .Not a pos) (tT X.K (dNotT t)) :=
  pt_imp (pt_not ha) fun σ H Q ⟨dr, B, F, env, s, r, q⟩ => ⟨dr, B, F, env, s, r, Cm.All.mono (fun c k F1 H1 S1 T1 => k F1 H1 S1 T1) (Cm.all_bind.mp q)⟩
theorem e_ifExp {c : Expr} (hc : PT X c (tT X.K t)) (ha : PE X a (tE X.K f1)) (hb : PE X b (tE X.K f2)) : PE X (.IfExp c a b pos) (tE X.K (dIf t f1 f2)) :=
  pe_imp (pe_ifExp hc ha hb) fun σ H Q ⟨dr, B, F, env, s, r, q⟩ => ⟨dr, B, F, env, s, r, Cm.All.mono (fun c k F1 H1 S1 T1 => by
    cases c with
    | true => exact ⟨dr, B, F1, env, T1, r.step S1, Cm.All.mono (fun d k3 v F3 H3 S3 T3 => k3 v F3 H3 (S1.trans S3 T3) T3) k⟩
    | false => exact ⟨dr, B, F1, env, T1, r.step S1, Cm.All.mono (fun d k3 v F3 H3 S3 T3 => k3 v F3 H3 (S1.trans S3 T3) T3) k⟩) (Cm.all_bind.mp q)⟩
/-- and, or, not as values: bools -/
def dAndV (f g : DE) : DE := fun env => (f env).bind fun d => match d with
  | .bool b => if b then g env else .ret (.bool false)
  | _ => .bad
def dOrV (f g : DE) : DE := fun env => (f env).bind fun d => match d with
  | .bool b => if b then .ret (.bool true) else g env
  | _ => .bad
def dNotV (f : DE) : DE := fun env => (f env).bind fun d => match d with
  | .bool b => .ret (.bool (!b))
  | _ => .bad
theorem bl_of {K : PySem.W.Frag} {dr : Dr} {F : Hp} {v : V} {b : Bool} (h : Rp K dr F v (.bool b)) : v = .bl b := by
  cases h with
  | dp z => cases z; rfl
theorem e_and (ha : PE X a (tE X.K f1)) (hb : PE X (.BoolOp .And (b :: rest) pos) (tE X.K f2)) : PE X (.BoolOp .And (a :: b :: rest) pos) (tE X.K (dAndV f1 f2)) :=
  pe_imp (pe_and ha hb) fun σ H Q ⟨dr, B, F, env, s, r, q⟩ => ⟨dr, B, F, env, s, r, Cm.All.mono (fun d k v F1 H1 S1 T1 b1 => by
    cases d with
    | bool c =>
      cases bl_of b1
      refine ⟨c, rfl, ?_⟩
      cases c with
      | true => exact ⟨dr, B, F1, env, T1, r.step S1, Cm.All.mono (fun d k3 v F3 H3 S3 T3 => k3 v F3 H3 (S1.trans S3 T3) T3) k⟩
      | false => exact k _ F1 H1 S1 T1 b1
    | none => exact k.elim
    | int _ => exact k.elim
    | str _ => exact k.elim
    | list _ => exact k.elim
    | tuple _ => exact k.elim
    | dict _ => exact k.elim) (Cm.all_bind.mp q)⟩
theorem e_or (ha : PE X a (tE X.K f1)) (hb : PE X (.BoolOp .Or (b :: rest) pos) (tE X.K f2)) : PE X (.BoolOp .Or (a :: b :: rest) pos) (tE X.K (dOrV f1 f2)) :=
  pe_imp (pe_or ha hb) fun σ H Q ⟨dr, B, F, env, s, r, q⟩ => ⟨dr, B, F, env, s, r, Cm.All.mono (fun d k v F1 H1 S1 T1 b1 => by
    cases d with
    | bool c =>
      cases bl_of b1
      refine ⟨c, rfl, ?_⟩
      cases c with
      | false => exact ⟨dr, B, F1, env, T1, r.step S1, Cm.All.mono (fun d k3 v F3 H3 S3 T3 => k3 v F3 H3 (S1.trans S3 T3) T3) k⟩
      | true => exact k _ F1 H1 S1 T1 b1
    | none => exact k.elim
    | int _ => exact k.elim
    | str _ => exact k.elim
    | list _ => exact k.elim
    | tuple _ => exact k.elim
    | dict _ => exact k.elim) (Cm.all_bind.mp q)⟩
theorem e_not (ha : PE X a (tE X.K f1)) : PE X (.UnaryOp .Not a pos) (tE X.K (dNotV f1)) :=
  pe_imp (pe_not ha) fun σ H Q ⟨dr, B, F, env, s, r, q⟩ => ⟨dr, B, F, env, s, r, Cm.All.mono (fun d k v F1 H1 S1 T1 b1 => by
    cases d with
    | bool c =>
      cases bl_of b1
      exact ⟨c, rfl, k _ F1 H1 S1 T1 (.dp (.bl _))⟩
    | none => exact k.elim
    | int _ => exact k.elim
    | str _ => exact k.elim
    | list _ => exact k.elim
    | tuple _ => exact k.elim
    | dict _ => exact k.elim) (Cm.all_bind.mp q)⟩
theorem e_one {op : BoolOp} (h : PE X a (tE X.K f)) : PE X (.BoolOp op [a] pos) (tE X.K f) := pe_one h
end
end Fs

set_option Elab.async false
set_option linter.all false
set_option maxRecDepth 100000
set_option maxHeartbeats 2000000
set_option autoImplicit false
namespace Fs
open PySem PySem.Spec PyProof.Rows L2

section
variable {X : Cx} {e a b c : Expr} {es : List Expr} {f f1 f2 f3 : DE} {fs : DEs} {t u : DT} {pos : Pos}
/-! ### argument lists -/
def dNil : DEs := fun _ => .ret []
def dCons (f : DE) (fs : DEs) : DEs := fun env => (f env).bind fun d => (fs env).bind fun ds => .ret (d :: ds)
theorem a_nil : PA X [] (tA X.K dNil) := pa_imp pa_nil fun σ H Q ⟨dr, B, F, env, s, r, q⟩ => q [] F H .refl s .nil
theorem a_cons (ha : PE X e (tE X.K f)) (hr : PA X es (tA X.K fs)) (hs : starEach (e :: es) X.env = (false, eval e X.env) :: starEach es X.env := by rfl) : PA X (e :: es) (tA X.K (dCons f fs)) :=
  pa_imp (pa_cons ha hr hs) fun σ H Q ⟨dr, B, F, env, s, r, q⟩ => ⟨dr, B, F, env, s, r, Cm.All.mono (fun d k v F1 H1 S1 T1 b1 =>
    ⟨dr, B, F1, env, T1, r.step S1, Cm.All.mono (fun ds k3 vs F3 H3 S3 T3 p3 => k3 (v :: vs) F3 H3 (S1.trans S3 T3) T3 (.cons (b1.up S3.up) p3)) (Cm.all_bind.mp k)⟩) (Cm.all_bind.mp q)⟩
theorem ab_nil : PA X [] (tAb X.K dNil) := pa_imp pa_nil fun σ H Q ⟨dr, B, F, env, s, r, q⟩ => q [] F H .refl s .nil
theorem ab_cons (ha : PE X e (tB X.K f)) (hr : PA X es (tAb X.K fs)) (hs : starEach (e :: es) X.env = (false, eval e X.env) :: starEach es X.env := by rfl) : PA X (e :: es) (tAb X.K (dCons f fs)) :=
  pa_imp (pa_cons ha hr hs) fun σ H Q ⟨dr, B, F, env, s, r, q⟩ => ⟨dr, B, F, env, s, r, Cm.All.mono (fun d k v F1 H1 S1 T1 b1 =>
    ⟨dr, B, F1, env, T1, r.step S1, Cm.All.mono (fun ds k3 vs F3 H3 S3 T3 p3 => k3 (v :: vs) F3 H3 (S1.trans S3 T3) T3 (.cons (b1.step S3) p3)) (Cm.all_bind.mp k)⟩) (Cm.all_bind.mp q)⟩

/-! ### new objects -/
theorem dr_there {dr : Dr} {F H : Hp} (s : Stt dr F H) {a : Addr} (h : dr.has a) : ∃ o, H a = some o := by
  obtain ⟨l, c, r, t, h1, h2, h3, _⟩ := s.drw
  rcases h with rfl | rfl | rfl
  · exact ⟨_, h1⟩
  · exact ⟨_, h2⟩
  · exact ⟨_, h3⟩
theorem not_dr {dr : Dr} {F H : Hp} (s : Stt dr F H) {p : Addr} (h : H p = none) : ¬ dr.has p := fun z => by
  obtain ⟨o, e⟩ := dr_there s z
  rw [h] at e; cases e
theorem DrawOk.upd {dr : Dr} {H : Hp} {p : Addr} {o : HO} (h : DrawOk dr H) (n : ¬ dr.has p) : DrawOk dr (upd H p o) := by
  obtain ⟨l, c, r, t, h1, h2, h3, h4⟩ := h
  refine ⟨l, c, r, t, ?_, ?_, ?_, h4⟩
  · rw [upd_ne (fun z => n (.inl z.symm))]; exact h1
  · rw [upd_ne (fun z => n (.inr (.inl z.symm)))]; exact h2
  · rw [upd_ne (fun z => n (.inr (.inr z.symm)))]; exact h3
/-- laid and frozen -/
theorem lay {dr : Dr} {F H : Hp} (s : Stt dr F H) {p : Addr} (h : H p = none) (o : HO) : Step dr F H (upd F p o) (upd H p o) ∧ Stt dr (upd F p o) (upd H p o) := by
  have nf : F p = none := by
    cases q : F p with
    | none => rfl
    | some u => have := s.sub _ _ q; rw [h] at this; cases this
  refine ⟨⟨fun a u e => ?_, fun a u n e => ?_, fun a u e => ?_⟩, ⟨fun a u e => ?_, s.drw.upd (not_dr s h), fun a z => ?_⟩⟩
  · rw [upd_ne (ne_of_none e nf)]; exact e
  · rw [upd_ne (ne_of_none e h)]; exact e
  · by_cases e1 : a = p
    · right; rw [e1]; exact h
    · left; rw [upd_ne e1] at e; exact e
  · by_cases e1 : a = p
    · rw [e1, upd_same] at e; rw [e1, upd_same]; exact e
    · rw [upd_ne e1] at e; rw [upd_ne e1]; exact s.sub _ _ e
  · rw [upd_ne (fun e1 => not_dr s h (by rw [← e1]; exact z))]; exact s.nodr a z
/-- laid, not frozen -/
theorem lay_own {dr : Dr} {F H : Hp} (s : Stt dr F H) {p : Addr} (h : H p = none) (o : HO) : Step dr F H F (upd H p o) ∧ Stt dr F (upd H p o) ∧ F p = none := by
  have nf : F p = none := by
    cases q : F p with
    | none => rfl
    | some u => have := s.sub _ _ q; rw [h] at this; cases this
  refine ⟨⟨fun a u e => e, fun a u n e => ?_, fun a u e => .inl e⟩, ⟨fun a u e => ?_, s.drw.upd (not_dr s h), s.nodr⟩, nf⟩
  · rw [upd_ne (ne_of_none e h)]; exact e
  · rw [upd_ne (ne_of_none e nf)]; exact s.sub _ _ e
/-- an own object becomes frozen -/
theorem freeze {dr : Dr} {F H : Hp} (s : Stt dr F H) {p : Addr} {o : HO} (h : H p = some o) (nf : F p = none) (n : ¬ dr.has p) : Stt dr (upd F p o) H ∧ ∀ a u, F a = some u → upd F p o a = some u := by
  refine ⟨⟨fun a u e => ?_, s.drw, fun a z => ?_⟩, fun a u e => ?_⟩
  · by_cases e1 : a = p
    · rw [e1, upd_same] at e; rw [e1, h]; exact e
    · rw [upd_ne e1] at e; exact s.sub _ _ e
  · rw [upd_ne (fun e1 => n (by rw [← e1]; exact z))]; exact s.nodr a z
  · rw [upd_ne (ne_of_none e nf)]; exact e

/-! ### displays -/
def dTup (fs : DEs) : DE := fun env => (fs env).bind fun ds => if ds.length ≤ 1000000 then .ret (.tuple ds) else .bad
def dLst (fs : DEs) : DE := fun env => (fs env).bind fun ds => if ds.length ≤ 1000000 then .ret (.list ds) else .bad
theorem mil {n : Nat} (h : n ≤ 1000000) : n ≤ sizeLine := Nat.le_trans h (by decide)
theorem mil_lt {n : Nat} (h : n ≤ 1000000) : n < sizeLine := Nat.lt_of_le_of_lt h (by decide)
theorem rp_dp {K : PySem.W.Frag} {dr : Dr} {F : Hp} {v : V} {d : D} (h : Rp K dr F v d) (n : ∀ kvs, d ≠ .dict kvs) : Dp K F v d := by
  cases h with
  | dp h => exact h
  | drw => exact absurd rfl (n _)
/-- data through and through: no dict in sight -/
def flatD : D → Bool
  | .dict _ => false
  | _ => true
theorem paired_dpa {K : PySem.W.Frag} {dr : Dr} {F : Hp} : ∀ {vs : List V} {ds : List D}, Paired (Rp K dr F) vs ds → ds.all flatD = true → DpAll K F vs ds
  | _, _, .nil, _ => .nil
  | _, d :: ds, .cons r t, h => by
    rw [List.all_cons, Bool.and_eq_true] at h
    exact .cons (rp_dp r fun kvs e => by rw [e] at h; exact absurd h.1 (by simp [flatD])) (paired_dpa t h.2)
def dTupF (fs : DEs) : DE := fun env => (fs env).bind fun ds => if ds.length ≤ 1000000 ∧ ds.all flatD = true then .ret (.tuple ds) else .bad
def dLstF (fs : DEs) : DE := fun env => (fs env).bind fun ds => if ds.length ≤ 1000000 ∧ ds.all flatD = true then .ret (.list ds) else .bad
theorem e_tup {x1 : _} (h : PA X es (tA X.K fs)) : PE X (.Tuple es x1 pos) (tE X.K (dTupF fs)) :=
  pe_imp (pe_tup h) fun σ H Q ⟨dr, B, F, env, s, r, q⟩ => ⟨dr, B, F, env, s, r, Cm.All.mono (fun ds k vs F1 H1 S1 T1 b1 => by
    by_cases hl : ds.length ≤ 1000000 ∧ ds.all flatD = true
    · rw [if_pos hl] at k
      have ha := paired_dpa b1 hl.2
      refine ⟨by rw [b1.length]; exact mil hl.1, fun p hp => ?_⟩
      obtain ⟨S2, T2⟩ := lay T1 hp (.tup vs)
      exact k _ _ _ (S1.trans S2 T2) T2 (.dp (.tup (.inl (.inl upd_same)) (dpa_up S2.up _ _ ha)))
    · rw [if_neg hl] at k; exact k.elim) (Cm.all_bind.mp q)⟩

/-- a new object of the body's own -/
def tF (K : PySem.W.Frag) (f : DE) : TE := fun σ H Q => ∃ dr B F env, Stt dr F H ∧ Rs K dr B F H σ env ∧
  (f env).All fun d => ∀ p F' H', Step dr F H F' H' → Stt dr F' H' → H p = none → F' p = none → OwnAt K F' H' p d → Q (.ref p) H'
theorem f_lst (h : PA X es (tA X.K fs)) : PE X (.List es pos) (tF X.K (dLstF fs)) :=
  pe_imp (pe_lst h) fun σ H Q ⟨dr, B, F, env, s, r, q⟩ => ⟨dr, B, F, env, s, r, Cm.All.mono (fun ds k vs F1 H1 S1 T1 b1 => by
    by_cases hl : ds.length ≤ 1000000 ∧ ds.all flatD = true
    · rw [if_pos hl] at k
      have ha := paired_dpa b1 hl.2
      refine ⟨by rw [b1.length]; exact mil hl.1, fun p hp => ?_⟩
      obtain ⟨S2, T2, nf⟩ := lay_own T1 hp (.lst vs)
      have hp0 : H p = none := by
        cases z : H p with
        | none => rfl
        | some o => have := S1.keep p o (not_dr T1 hp) z; rw [hp] at this; cases this
      exact k p F1 _ (S1.trans S2 T2) T2 hp0 nf ⟨vs, upd_same, ha⟩
    · rw [if_neg hl] at k; exact k.elim) (Cm.all_bind.mp q)⟩
theorem dict_no {K : PySem.W.Frag} {F H : Hp} {p : Addr} {d : D} (h : OwnAt K F H p d) : (∃ ds, d = .list ds) ∨ ∃ kvs, d = .dict kvs := by
  cases d with
  | list ds => exact .inl ⟨ds, rfl⟩
  | dict kvs => exact .inr ⟨kvs, rfl⟩
  | none => exact h.elim
  | bool _ => exact h.elim
  | int _ => exact h.elim
  | str _ => exact h.elim
  | tuple _ => exact h.elim
/-- a list only -/
def dOnlyL (f : DE) : DE := fun env => (f env).bind fun d => match d with
  | .list ds => .ret (.list ds)
  | _ => .bad
/-- a new list, frozen at once -/
theorem e_f (h : PE X e (tF X.K f)) : PE X e (tE X.K (dOnlyL f)) := pe_imp h fun σ H Q ⟨dr, B, F, env, s, r, q⟩ => ⟨dr, B, F, env, s, r, Cm.All.mono (fun d k p F1 H1 S1 T1 hp nf o => by
    rcases dict_no o with ⟨ds, rfl⟩ | ⟨kvs, rfl⟩
    · obtain ⟨vs, e1, ha⟩ := o
      have nd : ¬ dr.has p := not_dr s hp
      obtain ⟨T2, up⟩ := freeze T1 e1 nf nd
      refine k _ (upd F1 p (.lst vs)) H1 ⟨fun a u e => up _ _ (S1.up a u e), S1.keep, fun a u e => ?_⟩ T2 (.dp (.lst (.inl (.inl upd_same)) (dpa_up up _ _ ha)))
      by_cases e2 : a = p
      · right; rw [e2]; exact hp
      · rw [upd_ne e2] at e; exact S1.new a u e
    · exact k.elim) (Cm.all_bind.mp q)⟩
theorem e_lst (h : PA X es (tA X.K fs)) : PE X (.List es pos) (tE X.K (dOnlyL (dLstF fs))) := e_f (f_lst h)

/-! ### what a def promises, calls -/
def spD (K : PySem.W.Frag) (n : Nat) (g : List D → Cm D) : Sp := fun vs H Q _ => ∃ dr F ds, Stt dr F H ∧ Paired (Rp K dr F) vs ds ∧ ds.length = n ∧
  (g ds).All fun d => ∀ v F' H', Step dr F H F' H' → Stt dr F' H' → Rp K dr F' v d → Q v H'
def dCallN (n : Nat) (g : List D → Cm D) (fs : DEs) : DE := fun env => (fs env).bind fun ds => if ds.length = n then g ds else .bad
theorem call_red {K : PySem.W.Frag} {n : Nat} {g : List D → Cm D} {σ : L2.St} {H : Hp} {Q : VK} {E : XK} (h : tE K (dCallN n g fs) σ H Q) : tCall (spD K n g) [] E (tA K fs) σ H Q := by
  obtain ⟨dr, B, F, env, s, r, q⟩ := h
  refine ⟨dr, B, F, env, s, r, Cm.All.mono (fun ds k vs F1 H1 S1 T1 b1 => ?_) (Cm.all_bind.mp q)⟩
  by_cases hl : ds.length = n
  · rw [if_pos hl] at k
    rw [List.append_nil]
    exact ⟨dr, F1, ds, T1, b1, hl, Cm.All.mono (fun d k3 v F3 H3 S3 T3 => k3 v F3 H3 (S1.trans S3 T3) T3) k⟩
  · rw [if_neg hl] at k; exact k.elim
theorem e_call {k n : Nat} {fa : Addr} {fd : FuncData} {ps : List Str} {x : Str} {p : Pos} {g : List D → Cm D} (FO : FnOk X.prog X.w X.K X.mg X.base CX0 k fa fd ps (spD X.K n g)) (hr : Room k X.A) (hg : Gl X x) (hm : X.mg x = some (.ref fa)) (hk : PySem.W.keepIn X.K (.ref fa) = true) (hb : Binds X.K fd ps [])
    (ha : PA X (e :: es) (tA X.K fs)) (hdb : (x == ("__debug__" : Str)) = false := by decide) (he : starEach (e :: es) X.env = (false, eval e X.env) :: starEach es X.env := by rfl) (hpl : (backTo pos (starEach es X.env)).any (·.1) = false := by rfl) :
    PE X (.Call (.Name x p) (e :: es) [] pos) (tE X.K (dCallN n g fs)) :=
  pe_imp (pe_call (E := E0) FO hr hg hm hk hb .nil pass0 ha hdb he hpl) fun σ H Q h => call_red h
theorem e_call0 {k : Nat} {fa : Addr} {fd : FuncData} {x : Str} {p : Pos} {g : List D → Cm D} (FO : FnOk X.prog X.w X.K X.mg X.base CX0 k fa fd [] (spD X.K 0 g)) (hr : Room k X.A) (hg : Gl X x) (hm : X.mg x = some (.ref fa)) (hk : PySem.W.keepIn X.K (.ref fa) = true) (hb : Binds X.K fd [] [])
    (hdb : (x == ("__debug__" : Str)) = false := by decide) : PE X (.Call (.Name x p) [] [] pos) (tE X.K (dCallN 0 g dNil)) :=
  pe_imp (pe_call0 (E := E0) FO hr hg hm hk hb .nil pass0 hdb) fun σ H Q h => by
    obtain ⟨dr, B, F, env, s, r, q⟩ := call_red (E := E0) h
    exact q [] F H .refl s .nil

/-! ### built-ins by values -/
theorem cb_red {K : PySem.W.Frag} {g : List D → Cm D} {σ : L2.St} {H : Hp} {Q : VK} (h : tE K (dCall g fs) σ H Q) : tCB (rDs K g) (tAb K fs) σ H Q := by
  obtain ⟨dr, B, F, env, s, r, q⟩ := h
  exact ⟨dr, B, F, env, s, r, Cm.All.mono (fun ds k vs F1 H1 S1 T1 b1 => ⟨dr, F1, ds, T1, b1, Cm.All.mono (fun d k3 v F3 H3 S3 T3 => k3 v F3 H3 (S1.trans S3 T3) T3) k⟩) (Cm.all_bind.mp q)⟩
theorem e_callB {id : String} {x : Str} {p : Pos} {g : List D → Cm D} (hc : CallR X (.builtin id) (rDs X.K g)) (hg : Gl X x) (hm : X.mg x = none) (hv : bootBuiltins x = some (.builtin id)) (ha : PA X (e :: es) (tAb X.K fs)) (hn : x ≠ "__name__" := by decide) (hdb : (x == ("__debug__" : Str)) = false := by decide)
    (he : starEach (e :: es) X.env = (false, eval e X.env) :: starEach es X.env := by rfl) (hpl : (backTo pos (starEach es X.env)).any (·.1) = false := by rfl) : PE X (.Call (.Name x p) (e :: es) [] pos) (tE X.K (dCall g fs)) :=
  pe_imp (pe_callB hc hg hm hv ha hn hdb he hpl) fun _ _ _ h => cb_red h
theorem e_callTy {T : String} {x : Str} {p : Pos} {g : List D → Cm D} (hc : CallR X (.type T) (rDs X.K g)) (hg : Gl X x) (hm : X.mg x = none) (hv : bootBuiltins x = some (.type T)) (ha : PA X (e :: es) (tAb X.K fs)) (hn : x ≠ "__name__" := by decide) (hdb : (x == ("__debug__" : Str)) = false := by decide)
    (he : starEach (e :: es) X.env = (false, eval e X.env) :: starEach es X.env := by rfl) (hpl : (backTo pos (starEach es X.env)).any (·.1) = false := by rfl) : PE X (.Call (.Name x p) (e :: es) [] pos) (tE X.K (dCall g fs)) :=
  pe_imp (pe_callTy hc hg hm hv ha hn hdb he hpl) fun _ _ _ h => cb_red h
/-- a subscript -/
theorem e_ix {g : D → D → Cm D} (hr : IxR X (rD2 X.K g)) (ha : PE X a (tB X.K f1)) (hb : PE X b (tB X.K f2)) (hs : PlainIx b) : PE X (.Subscript a b pos) (tE X.K (dOp g f1 f2)) :=
  pe_imp (pe_ix hr ha hb hs) fun _ _ _ h => op_red h
end

/-! ### statements -/
inductive Out where
  | nx (env : Env)
  | rt (d : D)
  | bk (env : Env)
  | ct (env : Env)
abbrev DS := Env → Cm Out
def Post (K : PySem.W.Frag) (dr : Dr) (F0 H0 : Hp) (D : Ends) : Out → Prop
  | .nx env => ∀ σ F H, Stt dr F H → Step dr F0 H0 F H → Rs K dr H0 F H σ env → D.nx σ H
  | .rt d => ∀ v F H, Stt dr F H → Step dr F0 H0 F H → Rp K dr F v d → D.rt v H
  | .bk env => ∀ σ F H, Stt dr F H → Step dr F0 H0 F H → Rs K dr H0 F H σ env → D.bk σ H
  | .ct env => ∀ σ F H, Stt dr F H → Step dr F0 H0 F H → Rs K dr H0 F H σ env → D.ct σ H
def tS (K : PySem.W.Frag) (s : DS) : TS := fun D σ H => ∃ dr F0 H0 F env, Stt dr F H ∧ Step dr F0 H0 F H ∧ Rs K dr H0 F H σ env ∧ (s env).All (Post K dr F0 H0 D)

theorem Rs.get {K : PySem.W.Frag} {dr : Dr} {B F H : Hp} {σ : L2.St} {env : Env} (r : Rs K dr B F H σ env) {i : Nat} {s : Slot} (h : env[i]? = some s) : i < σ.length := by
  rw [r.len]; exact (List.getElem?_eq_some_iff.mp h).1
theorem Rs.setVal {K : PySem.W.Frag} {dr : Dr} {B F H : Hp} {σ : L2.St} {env : Env} (r : Rs K dr B F H σ env) (i : Nat) {v : V} {d : D} (h : Rp K dr F v d) : Rs K dr B F H (σ.set i (some v)) (env.set i (.val d)) where
  len := by rw [List.length_set, List.length_set]; exact r.len
  ok := fun j s e => by
    by_cases hj : i = j
    · subst hj
      by_cases hi : i < env.length
      · rw [List.getElem?_set_self hi] at e
        cases e
        rw [List.getElem?_set_self (by rw [r.len]; exact hi)]
        exact ⟨_, rfl, v, rfl, h⟩
      · rw [List.getElem?_eq_none (by simpa using hi)] at e; cases e
    · rw [List.getElem?_set_ne hj] at e
      rw [List.getElem?_set_ne hj]
      exact r.ok j s e
  apart := fun j k p d1 d2 e1 e2 s1 s2 => by
    have aux : ∀ j d1, (env.set i (Slot.val d))[j]? = some (.own d1) → i ≠ j := fun j d1 e1 hj => by
      subst hj
      by_cases hi : i < env.length
      · rw [List.getElem?_set_self hi] at e1; cases e1
      · rw [List.getElem?_eq_none (by simpa using hi)] at e1; cases e1
    have n1 := aux j d1 e1
    have n2 := aux k d2 e2
    rw [List.getElem?_set_ne n1] at e1 s1
    rw [List.getElem?_set_ne n2] at e2 s2
    exact r.apart j k p d1 d2 e1 e2 s1 s2
theorem Rs.setOwn {K : PySem.W.Frag} {dr : Dr} {B F H : Hp} {σ : L2.St} {env : Env} (r : Rs K dr B F H σ env) (i : Nat) {p : Addr} {d : D} (hB : B p = none) (hF : F p = none) (hd : ¬ dr.has p) (h : OwnAt K F H p d)
    (new : ∀ j e, j ≠ i → env[j]? = some (.own e) → σ[j]? ≠ some (some (.ref p))) : Rs K dr B F H (σ.set i (some (.ref p))) (env.set i (.own d)) where
  len := by rw [List.length_set, List.length_set]; exact r.len
  ok := fun j s e => by
    by_cases hj : i = j
    · subst hj
      by_cases hi : i < env.length
      · rw [List.getElem?_set_self hi] at e
        cases e
        rw [List.getElem?_set_self (by rw [r.len]; exact hi)]
        exact ⟨_, rfl, p, rfl, hB, hF, hd, h⟩
      · rw [List.getElem?_eq_none (by simpa using hi)] at e; cases e
    · rw [List.getElem?_set_ne hj] at e
      rw [List.getElem?_set_ne hj]
      exact r.ok j s e
  apart := fun j k q d1 d2 e1 e2 s1 s2 => by
    by_cases hj : i = j
    · by_cases hk : i = k
      · rw [← hj, ← hk]
      · exfalso
        rw [List.getElem?_set_ne hk] at e2 s2
        subst hj
        by_cases hi : i < σ.length
        · rw [List.getElem?_set_self hi] at s1
          cases s1
          exact new k d2 (fun z => hk z.symm) e2 s2
        · rw [List.getElem?_eq_none (by simpa using hi)] at s1; cases s1
    · rw [List.getElem?_set_ne hj] at e1 s1
      by_cases hk : i = k
      · exfalso
        subst hk
        by_cases hi : i < σ.length
        · rw [List.getElem?_set_self hi] at s2
          cases s2
          exact new j d1 (fun z => hj z.symm) e1 s1
        · rw [List.getElem?_eq_none (by simpa using hi)] at s2; cases s2
      · rw [List.getElem?_set_ne hk] at e2 s2
        exact r.apart j k q d1 d2 e1 e2 s1 s2
/-- an own list of slot i is written -/
theorem Rs.write {K : PySem.W.Frag} {dr : Dr} {B F H : Hp} {σ : L2.St} {env : Env} (s : Stt dr F H) (r : Rs K dr B F H σ env) {i : Nat} {d d' : D} {p : Addr} {o : HO} (he : env[i]? = some (.own d)) (hs : σ[i]? = some (some (.ref p))) (h : OwnAt K F (upd H p o) p d') :
    Rs K dr B F (upd H p o) σ (env.set i (.own d')) ∧ Stt dr F (upd H p o) ∧ B p = none := by
  obtain ⟨o1, ho, q, hq, hB, hF, hn, own⟩ := r.ok i _ he
  rw [hs] at ho
  cases ho
  cases hq
  have hi : i < env.length := (List.getElem?_eq_some_iff.mp he).1
  refine ⟨⟨by rw [List.length_set]; exact r.len, fun j t e => ?_, fun j k q d1 d2 e1 e2 s1 s2 => ?_⟩, ⟨fun a u e => ?_, s.drw.upd hn, s.nodr⟩, hB⟩
  · by_cases hj : i = j
    · subst hj
      rw [List.getElem?_set_self hi] at e
      cases e
      exact ⟨_, hs, p, rfl, hB, hF, hn, h⟩
    · rw [List.getElem?_set_ne hj] at e
      obtain ⟨o2, h2, ok⟩ := r.ok j t e
      refine ⟨o2, h2, ?_⟩
      cases t with
      | no => trivial
      | val d => exact ok
      | own d2 =>
        obtain ⟨q2, e2, b2, f2, n2, w2⟩ := ok
        refine ⟨q2, e2, b2, f2, n2, ?_⟩
        have nq : q2 ≠ p := fun z => by
          subst z
          subst e2
          exact hj (r.apart i j q2 _ _ he e hs h2)
        cases d2 with
        | list ds => obtain ⟨vs, e3, r3⟩ := w2; exact ⟨vs, by rw [upd_ne nq]; exact e3, r3⟩
        | dict kvs => obtain ⟨vs, e3, r3⟩ := w2; exact ⟨vs, by rw [upd_ne nq]; exact e3, r3⟩
        | none => exact w2
        | bool _ => exact w2
        | int _ => exact w2
        | str _ => exact w2
        | tuple _ => exact w2
  · have aux : ∀ (j : Nat) (d1 : D), (env.set i (Slot.own d'))[j]? = some (Slot.own d1) → ∃ d0, env[j]? = some (Slot.own d0) := fun j d1 e1 => by
      by_cases hj : i = j
      · subst hj; exact ⟨_, he⟩
      · rw [List.getElem?_set_ne hj] at e1; exact ⟨_, e1⟩
    obtain ⟨d3, e3⟩ := aux j d1 e1
    obtain ⟨d4, e4⟩ := aux k d2 e2
    exact r.apart j k q d3 d4 e3 e4 s1 s2
  · rw [upd_ne (ne_of_none e hF)]; exact s.sub _ _ e
theorem step_write {dr : Dr} {F0 H0 F H : Hp} {p : Addr} {o : HO} (S : Step dr F0 H0 F H) (hB : H0 p = none) : Step dr F0 H0 F (upd H p o) :=
  ⟨S.up, fun a u n e => by rw [upd_ne (ne_of_none e hB)]; exact S.keep a u n e, S.new⟩
/-- slot i is frozen -/
def frz1 (i : Nat) (env : Env) : Env := match env[i]? with
  | some (.own (.list ds)) => env.set i (.val (.list ds))
  | _ => env
theorem Rs.frz1 {K : PySem.W.Frag} {dr : Dr} {F0 H0 F H : Hp} {σ : L2.St} {env : Env} (s : Stt dr F H) (S : Step dr F0 H0 F H) (r : Rs K dr H0 F H σ env) (i : Nat) : ∃ F', Stt dr F' H ∧ Step dr F0 H0 F' H ∧ Rs K dr H0 F' H σ (frz1 i env) := by
  unfold Fs.frz1
  split
  · rename_i ds he
    obtain ⟨o1, ho, p, hq, hB, hF, hn, vs, hv, ha⟩ := r.ok i _ he
    subst hq
    obtain ⟨T, up⟩ := freeze s hv hF hn
    have hi : i < env.length := (List.getElem?_eq_some_iff.mp he).1
    refine ⟨upd F p (.lst vs), T, ⟨fun a u e => up _ _ (S.up a u e), S.keep, fun a u e => ?_⟩, ⟨by rw [List.length_set]; exact r.len, fun j t e => ?_, fun j k q d1 d2 e1 e2 s1 s2 => ?_⟩⟩
    · by_cases e1 : a = p
      · right; rw [e1]; exact hB
      · rw [upd_ne e1] at e; exact S.new a u e
    · by_cases hj : i = j
      · subst hj
        rw [List.getElem?_set_self hi] at e
        cases e
        exact ⟨_, ho, _, rfl, .dp (.lst (.inl (.inl upd_same)) (dpa_up up _ _ ha))⟩
      · rw [List.getElem?_set_ne hj] at e
        obtain ⟨o2, h2, ok⟩ := r.ok j t e
        refine ⟨o2, h2, ?_⟩
        cases t with
        | no => trivial
        | val d => obtain ⟨v, e3, r3⟩ := ok; exact ⟨v, e3, r3.up up⟩
        | own d2 =>
          obtain ⟨q2, e2, b2, f2, n2, w2⟩ := ok
          have nq : q2 ≠ p := fun z => by
            subst z
            subst e2
            exact hj (r.apart i j q2 _ _ he e ho h2)
          refine ⟨q2, e2, b2, by rw [upd_ne nq]; exact f2, n2, ?_⟩
          cases d2 with
          | list ds => obtain ⟨vs, e3, r3⟩ := w2; exact ⟨vs, e3, dpa_up up _ _ r3⟩
          | dict kvs => obtain ⟨vs, e3, r3⟩ := w2; exact ⟨vs, e3, paired_mono (fun _ _ q => ⟨dp_up up _ _ q.1, dp_up up _ _ q.2⟩) r3⟩
          | none => exact w2
          | bool _ => exact w2
          | int _ => exact w2
          | str _ => exact w2
          | tuple _ => exact w2
    · have aux : ∀ j d1, (env.set i (Slot.val (.list ds)))[j]? = some (.own d1) → i ≠ j ∧ env[j]? = some (.own d1) := fun j d1 e1 => by
        by_cases hj : i = j
        · subst hj; rw [List.getElem?_set_self hi] at e1; cases e1
        · rw [List.getElem?_set_ne hj] at e1; exact ⟨hj, e1⟩
      exact r.apart j k q d1 d2 (aux j d1 e1).2 (aux k d2 e2).2 s1 s2
  · exact ⟨F, s, S, r⟩

section
variable {X : Cx} {e a b c : Expr} {es : List Expr} {f f1 f2 f3 : DE} {fs : DEs} {t u : DT} {pos : Pos} {st : Stmt} {rest : List Stmt} {s s1 s2 : DS}
def dSkip : DS := fun env => .ret (.nx env)
def dSeq (s1 s2 : DS) : DS := fun env => (s1 env).bind fun o => match o with
  | .nx env' => s2 env'
  | .rt d => .ret (.rt d)
  | .bk e => .ret (.bk e)
  | .ct e => .ret (.ct e)
def dFrz (i : Nat) (s : DS) : DS := fun env => s (frz1 i env)
def dNever : DS := fun _ => .bad
def dRet (f : DE) : DS := fun env => (f env).bind fun d => .ret (.rt d)
def dRetN : DS := fun _ => .ret (.rt .none)
def dSet (i : Nat) (f : DE) : DS := fun env => (f env).bind fun d => .ret (.nx (env.set i (.val d)))
def dSetF (i : Nat) (f : DE) : DS := fun env => (f env).bind fun d => .ret (.nx (env.set i (.own d)))
def dIfS (t : DT) (s1 s2 : DS) : DS := fun env => (t env).bind fun b => if b then s1 env else s2 env
def dDrop (f : DE) : DS := fun env => (f env).bind fun _ => .ret (.nx env)
def dCont : DS := fun env => .ret (.ct env)
def dBrk : DS := fun env => .ret (.bk env)
theorem ss_nil : PSs X [] (tS X.K dSkip) := pss_imp pss_nil fun D σ H ⟨dr, F0, H0, F, env, s, S, r, q⟩ => q σ F H s S r
theorem ss_cons (h1 : PS X st (tS X.K s1)) (h2 : PSs X rest (tS X.K s2)) : PSs X (st :: rest) (tS X.K (dSeq s1 s2)) :=
  pss_imp (pss_cons h1 h2) fun D σ H ⟨dr, F0, H0, F, env, s, S, r, q⟩ => ⟨dr, F0, H0, F, env, s, S, r, Cm.All.mono (fun o k => by
    cases o with
    | nx env' => exact fun σ' F' H' T' S' r' => ⟨dr, F0, H0, F', env', T', S', r', k⟩
    | rt d => exact k
    | bk e => exact k
    | ct e => exact k) (Cm.all_bind.mp q)⟩
theorem ss_one (h1 : PS X st (tS X.K s1)) : PSs X [st] (tS X.K s1) := pss_one h1
theorem s_frz (i : Nat) (h : PS X st (tS X.K s)) : PS X st (tS X.K (dFrz i s)) := ps_imp h fun D σ H ⟨dr, F0, H0, F, env, s, S, r, q⟩ => by
  obtain ⟨F', T', S', r'⟩ := r.frz1 s S i
  exact ⟨dr, F0, H0, F', _, T', S', r', q⟩
theorem s_never : PS X st (tS X.K dNever) := ps_imp ps_never fun D σ H ⟨dr, F0, H0, F, env, s, S, r, q⟩ => q
theorem ss_never {sts : List Stmt} : PSs X sts (tS X.K dNever) := pss_imp pss_never fun D σ H ⟨dr, F0, H0, F, env, s, S, r, q⟩ => q
theorem s_ret (he : PE X e (tE X.K f)) : PS X (.Return (some e) pos) (tS X.K (dRet f)) := ps_imp (ps_ret he) fun D σ H ⟨dr, F0, H0, F, env, s, S, r, q⟩ =>
  ⟨dr, H0, F, env, s, r, Cm.All.mono (fun d k v F' H' S' T' rv => k v F' H' T' (S.trans S' T') rv) (Cm.all_bind.mp q)⟩
theorem s_retN : PS X (.Return none pos) (tS X.K dRetN) := ps_imp ps_retN fun D σ H ⟨dr, F0, H0, F, env, s, S, r, q⟩ => q _ F H s S (.dp .non)
theorem s_cont : PS X (.Continue pos) (tS X.K dCont) := ps_imp ps_continue fun D σ H ⟨dr, F0, H0, F, env, s, S, r, q⟩ => q σ F H s S r
theorem s_brk : PS X (.Break pos) (tS X.K dBrk) := ps_imp ps_break fun D σ H ⟨dr, F0, H0, F, env, s, S, r, q⟩ => q σ F H s S r
theorem s_pass : PS X (.Pass pos) (tS X.K dSkip) := ps_imp ps_pass fun D σ H ⟨dr, F0, H0, F, env, s, S, r, q⟩ => q σ F H s S r
theorem s_drop (he : PE X e (tE X.K f)) (hs : swapsWith e none pos.line X.env = pure false := by rfl) : PS X (.Expr e pos) (tS X.K (dDrop f)) := ps_imp (ps_expr he hs) fun D σ H ⟨dr, F0, H0, F, env, s, S, r, q⟩ =>
  ⟨dr, H0, F, env, s, r, Cm.All.mono (fun d k v F' H' S' T' rv => k σ F' H' T' (S.trans S' T') (r.step S')) (Cm.all_bind.mp q)⟩
theorem s_if {ss1 ss2 : List Stmt} (hc : PT X c (tT X.K t)) (ha : PSs X ss1 (tS X.K s1)) (hb : PSs X ss2 (tS X.K s2)) : PS X (.If c ss1 ss2 pos) (tS X.K (dIfS t s1 s2)) :=
  ps_imp (ps_if hc ha hb) fun D σ H ⟨dr, F0, H0, F, env, s, S, r, q⟩ => ⟨dr, H0, F, env, s, r, Cm.All.mono (fun b k F' H' S' T' => by
    cases b with
    | true => exact ⟨dr, F0, H0, F', env, T', S.trans S' T', r.step S', k⟩
    | false => exact ⟨dr, F0, H0, F', env, T', S.trans S' T', r.step S', k⟩) (Cm.all_bind.mp q)⟩
theorem s_set {i : Nat} {x : Str} {pos' : Pos} (hN : X.N.Nodup) (hi : X.N[i]? = some x) (hx : Loc X.env.scope x) (he : PE X e (tE X.K f)) (hs : swapsWith e (some (.Name x pos')) pos.line X.env = pure false := by rfl) (hf : X.fn x = true ∨ X.env.scope.names.lookup x = some .local := by first | exact .inl rfl | exact .inr rfl | assumption) :
    PS X (.Assign [.Name x pos'] e pos) (tS X.K (dSet i f)) := ps_imp (ps_set hN hi hx he hs hf) fun D σ H ⟨dr, F0, H0, F, env, s, S, r, q⟩ =>
  ⟨dr, H0, F, env, s, r, Cm.All.mono (by intro d k v F' H' S' T' rv; exact k _ F' H' T' (S.trans S' T') ((r.step S').setVal i rv)) (Cm.all_bind.mp q)⟩
theorem Rs.newOwn {K : PySem.W.Frag} {dr : Dr} {B F H F' H' : Hp} {σ : L2.St} {env : Env} (r : Rs K dr B F H σ env) {i : Nat} {p : Addr} {d : D} (S : Step dr F H F' H') (T : Stt dr F H) (hp : H p = none) (hB : B p = none) (nf : F' p = none) (o : OwnAt K F' H' p d) :
    Rs K dr B F' H' (σ.set i (some (.ref p))) (env.set i (.own d)) := by
  refine (r.step S).setOwn i hB nf (not_dr T hp) o fun j d2 hj e2 s2 => ?_
  obtain ⟨o2, h2, q2, e3, _, _, _, w⟩ := r.ok j _ e2
  rw [s2] at h2
  cases h2
  cases e3
  obtain ⟨u, hu⟩ := w.there
  rw [hp] at hu; cases hu
theorem s_setF {i : Nat} {x : Str} {pos' : Pos} (hN : X.N.Nodup) (hi : X.N[i]? = some x) (hx : Loc X.env.scope x) (he : PE X e (tF X.K f)) (hs : swapsWith e (some (.Name x pos')) pos.line X.env = pure false := by rfl) (hf : X.fn x = true ∨ X.env.scope.names.lookup x = some .local := by first | exact .inl rfl | exact .inr rfl | assumption) :
    PS X (.Assign [.Name x pos'] e pos) (tS X.K (dSetF i f)) := ps_imp (ps_set hN hi hx he hs hf) fun D σ H ⟨dr, F0, H0, F, env, s, S, r, q⟩ =>
  ⟨dr, H0, F, env, s, r, Cm.All.mono (by
    intro d k p F' H' S' T' hp nf o
    refine k _ F' H' T' (S.trans S' T') (r.newOwn S' s hp ?_ nf o)
    cases z : H0 p with
    | none => rfl
    | some u => have := S.keep p u (not_dr s hp) z; rw [hp] at this; cases this) (Cm.all_bind.mp q)⟩
end
end Fs

set_option Elab.async false
set_option linter.all false
set_option maxRecDepth 100000
set_option maxHeartbeats 2000000
set_option autoImplicit false
namespace Fs
open PySem PySem.Spec PyProof.Rows L2

/-! ### targets -/
abbrev DTg := D → Env → Cm Env
abbrev DTgs := List D → Env → Cm Env
/-- slots outside is stay -/
def Keeps (is : List Nat) (σ σ' : L2.St) : Prop := σ'.length = σ.length ∧ ∀ j, j ∉ is → σ'[j]? = σ[j]?
def tG (K : PySem.W.Frag) (is : List Nat) (g : DTg) : TG := fun v σ H Q => ∃ dr B F env d, Stt dr F H ∧ Rs K dr B F H σ env ∧ Rp K dr F v d ∧
  (g d env).All fun env' => ∀ σ', Rs K dr B F H σ' env' → Keeps is σ σ' → Q σ' H
def tGs (K : PySem.W.Frag) (is : List Nat) (g : DTgs) : TGs := fun vs σ H Q => ∃ dr B F env ds, Stt dr F H ∧ Rs K dr B F H σ env ∧ DpAll K F vs ds ∧
  (g ds env).All fun env' => ∀ σ', Rs K dr B F H σ' env' → Keeps is σ σ' → Q σ' H
def gN (i : Nat) : DTg := fun d env => .ret (env.set i (.val d))
def gsNil : DTgs := fun ds env => match ds with
  | [] => .ret env
  | _ => .bad
def gsCons (g : DTg) (gs : DTgs) : DTgs := fun ds env => match ds with
  | d :: r => (g d env).bind fun env' => gs r env'
  | [] => .bad
def gTp (n : Nat) (gs : DTgs) : DTg := fun d env => match d with
  | .tuple ds => if ds.length = n then gs ds env else .bad
  | _ => .bad
theorem pg_imp {X : Cx} {e : Expr} {t t' : TG} (h : PG X e t) (i : ∀ v σ H Q, t' v σ H Q → t v σ H Q) : PG X e t' := ⟨fun p s σ H v u Q I r q => h.run p s σ H v u Q I r (i _ _ _ _ q)⟩
theorem pgs_imp {X : Cx} {e : List Expr} {t t' : TGs} (h : PGs X e t) (i : ∀ v σ H Q, t' v σ H Q → t v σ H Q) : PGs X e t' := ⟨fun p s σ H v u Q I r q => h.run p s σ H v u Q I r (i _ _ _ _ q)⟩
theorem Keeps.refl (is : List Nat) (σ : L2.St) : Keeps is σ σ := ⟨rfl, fun _ _ => rfl⟩
theorem keeps_set (i : Nat) (σ : L2.St) (o : Option V) : Keeps [i] σ (σ.set i o) := ⟨List.length_set, fun j hj => List.getElem?_set_ne (fun e => hj (by simp [e]))⟩
theorem Keeps.trans {is js : List Nat} {σ σ1 σ2 : L2.St} (a : Keeps is σ σ1) (b : Keeps js σ1 σ2) : Keeps (is ++ js) σ σ2 :=
  ⟨b.1.trans a.1, fun j hj => (b.2 j fun z => hj (List.mem_append_right _ z)).trans (a.2 j fun z => hj (List.mem_append_left _ z))⟩
section
variable {X : Cx} {e a b c : Expr} {es : List Expr} {f f1 f2 f3 : DE} {fs : DEs} {t u : DT} {pos : Pos} {is js : List Nat} {g : DTg} {gs : DTgs}
theorem g_name {i : Nat} {x : Str} (hN : X.N.Nodup) (hi : X.N[i]? = some x) (hx : Loc X.env.scope x) (hf : X.fn x = true ∨ X.env.scope.names.lookup x = some .local := by first | exact .inl rfl | exact .inr rfl | assumption) : PG X (.Name x pos) (tG X.K [i] (gN i)) :=
  pg_imp (pg_name hN hi hx hf) fun v σ H Q ⟨dr, B, F, env, d, s, r, rv, q⟩ => q _ (r.setVal i rv) (keeps_set i σ _)
theorem gs_nil : PGs X [] (tGs X.K [] gsNil) := pgs_imp pgs_nil fun vs σ H Q ⟨dr, B, F, env, ds, s, r, rv, q⟩ => by
  cases rv with
  | nil => exact ⟨rfl, q σ r (Keeps.refl _ _)⟩
  | cons _ _ => exact q.elim
theorem gs_cons (h1 : PG X e (tG X.K is g)) (h2 : PGs X es (tGs X.K js gs)) (hs : (assignEach (e :: es) X.env).map (·.2) = assign e X.env :: (assignEach es X.env).map (·.2) := by rfl) : PGs X (e :: es) (tGs X.K (is ++ js) (gsCons g gs)) :=
  pgs_imp (pgs_cons h1 h2 hs) fun vs σ H Q ⟨dr, B, F, env, ds, s, r, rv, q⟩ => by
    cases rv with
    | nil => exact q.elim
    | cons r1 r2 =>
      refine ⟨_, _, rfl, dr, B, F, env, _, s, r, .dp r1, Cm.All.mono (fun env' k σ' r' kp => ?_) (Cm.all_bind.mp q)⟩
      exact ⟨dr, B, F, env', _, s, r', r2, Cm.All.mono (fun env2 k2 σ2 r3 kp2 => k2 σ2 r3 (kp.trans kp2)) k⟩
theorem g_tup {k n : Nat} (hc : X.calm = true) (h : PGs X es (tGs X.K is gs)) (hn : (assignEach es X.env).length = n := by rfl) (hst : (assignEach es X.env).findIdx? (·.1) = none := by rfl) : PG X (.Tuple es k pos) (tG X.K is (gTp n gs)) :=
  pg_imp (pg_tup hc h hn hst) fun v σ H Q ⟨dr, B, F, env, d, s, r, rv, q⟩ => by
    cases d with
    | tuple ds =>
      cases rv with
      | dp z =>
        cases z with
        | tup hs ha =>
          have q' : (if ds.length = n then gs ds env else .bad).All _ := q
          by_cases hl : ds.length = n
          · rw [if_pos hl] at q'
            exact ⟨_, _, rfl, sqt_up s.sub hs, (dpa_len ha).trans hl, dr, B, F, env, ds, s, r, ha, q'⟩
          · rw [if_neg hl] at q'; exact q'.elim
    | none => exact q.elim
    | bool _ => exact q.elim
    | int _ => exact q.elim
    | str _ => exact q.elim
    | list _ => exact q.elim
    | dict _ => exact q.elim
/-- target = value -/
def dAsg (f : DE) (g : DTg) : DS := fun env => (f env).bind fun d => (g d env).bind fun env' => .ret (.nx env')
theorem s_asg {tg : Expr} (he : PE X e (tE X.K f)) (hg : PG X tg (tG X.K is g)) (hs : swapsWithSole [tg] e pos.line X.env = pure false := by rfl) (hw : swappedStores [tg] e X.env = pure none := by rfl)
    (h1 : (assignEach [tg] X.env).map (·.2) = [assign tg X.env] := by rfl) : PS X (.Assign [tg] e pos) (tS X.K (dAsg f g)) :=
  ps_imp (ps_asg he hg hs hw h1) fun D σ H ⟨dr, F0, H0, F, env, s, S, r, q⟩ => ⟨dr, H0, F, env, s, r, Cm.All.mono (by
    intro d k v F' H' S' T' rv
    exact ⟨dr, H0, F', env, d, T', r.step S', rv, Cm.All.mono (fun env' k2 σ' r' kp => k2 σ' F' H' T' (S.trans S' T') r') (Cm.all_bind.mp k)⟩) (Cm.all_bind.mp q)⟩
/-- a, b = x, y: two plain names -/
def dPar (i j : Nat) (f1 f2 : DE) : DS := fun env => (f1 env).bind fun d1 => (f2 env).bind fun d2 => .ret (.nx ((env.set i (.val d1)).set j (.val d2)))
theorem s_par {i j : Nat} {x y : Str} {px py pt : Pos} {kt k2 pt2} (hc : X.calm = true) (hN : X.N.Nodup) (hi : X.N[i]? = some x) (hj : X.N[j]? = some y) (hij : i ≠ j)
    (hx : X.env.scope.names.lookup x = some .local) (hy : X.env.scope.names.lookup y = some .local) (ha : PE X a (tE X.K f1)) (hb : PE X b (tE X.K f2))
    (hw : swappedStores [.Tuple [.Name x px, .Name y py] kt pt] (.Tuple [a, b] k2 pt2) X.env = pure (some [x, y]))
    (hst : starEach (a :: b :: []) X.env = (false, eval a X.env) :: starEach (b :: []) X.env := by rfl) (hst2 : starEach (b :: []) X.env = (false, eval b X.env) :: starEach [] X.env := by rfl)
    (hs : swapsWithSole [.Tuple [.Name x px, .Name y py] kt pt] (.Tuple [a, b] k2 pt2) pos.line X.env = pure false := by rfl) :
    PS X (.Assign [.Tuple [.Name x px, .Name y py] kt pt] (.Tuple [a, b] k2 pt2) pos) (tS X.K (dPar i j f1 f2)) :=
  ps_imp (ps_par hc hN hi hj hij hx hy (a_cons ha (a_cons hb a_nil hst2) hst) hw hs) fun D σ H ⟨dr, F0, H0, F, env, s, S, r, q⟩ => by
    refine ⟨dr, H0, F, env, s, r, Cm.all_bind.mpr (Cm.All.mono ?_ (Cm.all_bind.mp q))⟩
    intro d1 k1
    refine Cm.all_bind.mpr (Cm.all_bind.mpr (Cm.All.mono ?_ (Cm.all_bind.mp k1)))
    intro d2 k2 vs F' H' S' T' rv
    cases rv with
    | cons r1 rv =>
      cases rv with
      | cons r2 rv =>
        cases rv
        exact ⟨_, _, rfl, k2 _ F' H' T' (S.trans S' T') (((r.step S').setVal i r1).setVal j r2)⟩
end

/-! ### what is walked -/
structure ItOk (K : PySem.W.Frag) (dr : Dr) (J : It) (items : List D) (F0 : Hp) : Prop where
  stop : ∀ (F H : Hp) (i : Nat), (∀ a o, F0 a = some o → F a = some o) → Stt dr F H → items.length ≤ i → J.stop i H
  go : ∀ (F H : Hp) (i : Nat) (d : D), (∀ a o, F0 a = some o → F a = some o) → Stt dr F H → items[i]? = some d →
    J.go i H ∧ ∀ x H2, J.yld i H x H2 → ∃ F2, Step dr F H F2 H2 ∧ Stt dr F2 H2 ∧ Rp K dr F2 x d
def tI (K : PySem.W.Frag) (f : DEs) : TI := fun σ H R => ∃ dr B F env, Stt dr F H ∧ Rs K dr B F H σ env ∧
  (f env).All fun items => ∀ J F' H', Step dr F H F' H' → Stt dr F' H' → ItOk K dr J items F' → R J H'
theorem pi_imp {X : Cx} {tg e : Expr} {t t' : TI} (h : PI X tg e t) (i : ∀ σ H Q, t' σ H Q → t σ H Q) : PI X tg e t' := ⟨fun p s σ H R I q => h.run p s σ H R I (i _ _ _ q)⟩
def iSeq (K : PySem.W.Frag) (tl : TE) : TI := fun σ H R => tl σ H fun x H1 => ∃ a, x = .ref a ∧ (((∃ xs, SqL K H1 a xs) ∧ R (Itl K a) H1) ∨ ((∃ xs, SqT K H1 a xs) ∧ R (Itt K a) H1))
theorem pi_seq {X : Cx} {tg l : Expr} {tl : TE} (hl : PE X l tl) : PI X tg l (iSeq X.K tl) := by
  refine ⟨fun pins s σ H R I h => ?_⟩
  refine thn (hl.run pins s σ H _ I h) fun v s1 ⟨x, H1, I1, r1, q1⟩ => ?_
  obtain ⟨a, e, q⟩ := q1
  subst e
  cases r1
  rcases q with ⟨⟨xs, hq⟩, q⟩ | ⟨⟨xs, hq⟩, q⟩
  · obtain ⟨its, rv, p, hz⟩ := I1.list hq
    refine wpAny_pyIter_list p.isList ?_
    refine ⟨s1.heap.objs.size, [s1.heap.objs.size], _, _, H1, rfl, I1.kept (t' := s1.toks) fun b o e => Heap.get?_push_of_some _ e, turn_list a _, ⟨_, Heap.get?_push_size _ rfl, rfl, rfl⟩, fun b hb => ?_, q⟩
    have e : b = s1.heap.objs.size := by simpa using hb
    subst e
    exact I1.fpOk (Nat.le_refl _) (I1.hok.fresh (Nat.le_refl _))
  · obtain ⟨its, rv, p, hz⟩ := I1.tuple hq
    refine wpAny_pyIter_tuple (show s1.heap.IsTuple a its.toArray from p) ?_
    refine ⟨s1.heap.objs.size, [s1.heap.objs.size], _, _, H1, rfl, I1.kept (t' := s1.toks) fun b o e => Heap.get?_push_of_some _ e, turn_tuple a _, ⟨_, Heap.get?_push_size _ rfl, rfl, rfl⟩, fun b hb => ?_, q⟩
    have e : b = s1.heap.objs.size := by simpa using hb
    subst e
    exact I1.fpOk (Nat.le_refl _) (I1.hok.fresh (Nat.le_refl _))
theorem itok_list {K : PySem.W.Frag} {dr : Dr} {F : Hp} {a : Addr} {xs : List V} {ds : List D} (h : SqL K F a xs) (ha : DpAll K F xs ds) : ItOk K dr (Itl K a) ds F where
  stop := fun F1 H1 i up s hi => ⟨xs, sql_up s.sub (sql_up up h), by rw [dpa_len ha]; exact hi⟩
  go := fun F1 H1 i d up s hd => by
    obtain ⟨v, hv, dv⟩ := dpa_get ha hd
    have hq := sql_up s.sub (sql_up up h)
    refine ⟨⟨xs, v, hq, hv⟩, fun x H2 y => ?_⟩
    obtain ⟨e, y⟩ := y
    subst e
    have := y xs hq
    rw [hv] at this
    cases this
    exact ⟨F1, .refl, s, .dp (dp_up up _ _ dv)⟩
theorem itok_tup {K : PySem.W.Frag} {dr : Dr} {F : Hp} {a : Addr} {xs : List V} {ds : List D} (h : SqT K F a xs) (ha : DpAll K F xs ds) : ItOk K dr (Itt K a) ds F where
  stop := fun F1 H1 i up s hi => ⟨xs, sqt_up s.sub (sqt_up up h), by rw [dpa_len ha]; exact hi⟩
  go := fun F1 H1 i d up s hd => by
    obtain ⟨v, hv, dv⟩ := dpa_get ha hd
    have hq := sqt_up s.sub (sqt_up up h)
    refine ⟨⟨xs, v, hq, hv⟩, fun x H2 y => ?_⟩
    obtain ⟨e, y⟩ := y
    subst e
    have := y xs hq
    rw [hv] at this
    cases this
    exact ⟨F1, .refl, s, .dp (dp_up up _ _ dv)⟩
def dItems (f : DE) : DEs := fun env => (f env).bind fun d => match d with
  | .list ds => .ret ds
  | .tuple ds => .ret ds
  | _ => .bad
section
variable {X : Cx} {tg e a b c : Expr} {es : List Expr} {f f1 f2 f3 : DE} {fs : DEs} {t u : DT} {pos : Pos} {is js : List Nat} {g : DTg} {gs : DTgs} {s s1 s2 : DS}
theorem i_seq (h : PE X e (tE X.K f)) : PI X tg e (tI X.K (dItems f)) := pi_imp (pi_seq h) fun σ H R ⟨dr, B, F, env, s, r, q⟩ => ⟨dr, B, F, env, s, r, Cm.All.mono (by
  intro d k v F' H' S' T' rv
  cases d with
  | list ds =>
    cases rv with
    | dp z =>
      cases z with
      | lst hs ha => exact ⟨_, rfl, .inl ⟨⟨_, sql_up T'.sub hs⟩, k _ F' H' S' T' (itok_list hs ha)⟩⟩
  | tuple ds =>
    cases rv with
    | dp z =>
      cases z with
      | tup hs ha => exact ⟨_, rfl, .inr ⟨⟨_, sqt_up T'.sub hs⟩, k _ F' H' S' T' (itok_tup hs ha)⟩⟩
  | none => exact k.elim
  | bool _ => exact k.elim
  | int _ => exact k.elim
  | str _ => exact k.elim
  | dict _ => exact k.elim) (Cm.all_bind.mp q)⟩
def rng (lo : Int) (n : Nat) : List D := (List.range n).map fun (i : Nat) => PyData.int (lo + (i : Int))
theorem rng_get {lo : Int} {n i : Nat} {d : D} (h : (rng lo n)[i]? = some d) : i < n ∧ d = .int (lo + (i : Int)) := by
  unfold rng at h
  rw [List.getElem?_map] at h
  by_cases hi : i < n
  · rw [List.getElem?_range hi] at h
    cases h
    exact ⟨hi, rfl⟩
  · rw [List.getElem?_eq_none (by simpa using hi)] at h; cases h
theorem itok_rng {K : PySem.W.Frag} {dr : Dr} {F : Hp} (lo : Int) (n : Nat) : ItOk K dr (Itr lo n) (rng lo n) F where
  stop := fun F1 H1 i up s hi => by
    have : (rng lo n).length = n := by simp [rng]
    show n ≤ i
    omega
  go := fun F1 H1 i d up s hd => by
    obtain ⟨h1, rfl⟩ := rng_get hd
    refine ⟨h1, fun x H2 y => ?_⟩
    obtain ⟨e, y⟩ := y
    subst e
    subst y
    exact ⟨F1, .refl, s, .dp (.int _)⟩
def dRng1 (fs : DEs) : DEs := fun env => (fs env).bind fun ds => match ds with
  | [.int j] => if -4611686018427387904 ≤ j ∧ j < 4611686018427387904 then .ret (rng 0 j.toNat) else .bad
  | _ => .bad
def dRng2 (fs : DEs) : DEs := fun env => (fs env).bind fun ds => match ds with
  | [.int i, .int j] => if -4611686018427387904 ≤ i ∧ i < 4611686018427387904 ∧ -4611686018427387904 ≤ j ∧ j < 4611686018427387904 then .ret (rng i (j - i).toNat) else .bad
  | _ => .bad
theorem rp_int {K : PySem.W.Frag} {dr : Dr} {F : Hp} {v : V} {i : Int} (h : Rp K dr F v (.int i)) : v = .int i := by
  cases h with
  | dp z => cases z; rfl
theorem bp_int {K : PySem.W.Frag} {dr : Dr} {F H : Hp} {v : V} {i : Int} (h : Bp K dr F H v (.int i)) : v = .int i := by
  cases h with
  | r h => exact rp_int h
  | own _ _ h => exact h.elim
theorem i_rng1 {p : Pos} (hg : Gl X "range") (hm : X.mg "range" = none) (ha : PA X [a] (tA X.K fs)) (hs : starEach [a] X.env = [(false, eval a X.env)] := by rfl) : PI X tg (.Call (.Name "range" p) [a] [] pos) (tI X.K (dRng1 fs)) :=
  pi_imp (pi_range1 hg hm ha hs) fun σ H R ⟨dr, B, F, env, s, r, q⟩ => ⟨dr, B, F, env, s, r, Cm.All.mono (by
    intro ds k vs F' H' S' T' rv
    match ds, rv with
    | [.int j], .cons r1 .nil =>
      cases rp_int r1
      have k' : (if -4611686018427387904 ≤ j ∧ j < 4611686018427387904 then Cm.ret (rng 0 j.toNat) else .bad).All _ := k
      by_cases hj : -4611686018427387904 ≤ j ∧ j < 4611686018427387904
      · rw [if_pos hj] at k'
        exact ⟨j, rfl, by omega, by omega, k' _ F' H' S' T' (itok_rng 0 _)⟩
      · rw [if_neg hj] at k'; exact k'.elim
    | [], _ => exact k.elim
    | [.none], _ => exact k.elim
    | [.bool _], _ => exact k.elim
    | [.str _], _ => exact k.elim
    | [.list _], _ => exact k.elim
    | [.tuple _], _ => exact k.elim
    | [.dict _], _ => exact k.elim
    | .int _ :: _ :: _, _ => exact k.elim
    | .none :: _ :: _, _ => exact k.elim
    | .bool _ :: _ :: _, _ => exact k.elim
    | .str _ :: _ :: _, _ => exact k.elim
    | .list _ :: _ :: _, _ => exact k.elim
    | .tuple _ :: _ :: _, _ => exact k.elim
    | .dict _ :: _ :: _, _ => exact k.elim) (Cm.all_bind.mp q)⟩
theorem i_rng2 {p : Pos} (hg : Gl X "range") (hm : X.mg "range" = none) (ha : PA X [a, b] (tA X.K fs)) (hs : starEach [a, b] X.env = [(false, eval a X.env), (false, eval b X.env)] := by rfl) (hs2 : starEach [b] X.env = [(false, eval b X.env)] := by rfl) : PI X tg (.Call (.Name "range" p) [a, b] [] pos) (tI X.K (dRng2 fs)) :=
  pi_imp (pi_range2 hg hm ha hs hs2) fun σ H R ⟨dr, B, F, env, s, r, q⟩ => ⟨dr, B, F, env, s, r, Cm.All.mono (by
    intro ds k vs F' H' S' T' rv
    split at k
    · rename_i i j
      cases rv with
      | cons r1 rv =>
        cases rv with
        | cons r2 rv =>
          cases rv
          cases rp_int r1
          cases rp_int r2
          split at k
          · rename_i hj
            exact ⟨i, j, rfl, by omega, k _ F' H' S' T' (itok_rng i _)⟩
          · exact k.elim
    · exact k.elim) (Cm.all_bind.mp q)⟩

/-! ### for -/
def forGo (g : DTg) (s : DS) : List D → DS
  | [], env => .ret (.nx env)
  | d :: ds, env => (g d env).bind fun env1 => (s env1).bind fun o => match o with
    | .nx e => forGo g s ds e
    | .ct e => forGo g s ds e
    | .bk e => .ret (.nx e)
    | .rt d => .ret (.rt d)
def dFor (fi : DEs) (g : DTg) (s : DS) : DS := fun env => (fi env).bind fun items => forGo g s items env
theorem Step.rebase {dr : Dr} {F0 H0 F2 H2 F3 H3 : Hp} (a : Step dr F0 H0 F2 H2) (b : Step dr F2 H0 F3 H3) : Step dr F0 H0 F3 H3 :=
  ⟨fun x o h => b.up x o (a.up x o h), b.keep, fun x o h => (b.new x o h).elim (a.new x o) .inr⟩
theorem Step.here {dr : Dr} {F0 H0 F2 H2 : Hp} (a : Step dr F0 H0 F2 H2) : Step dr F2 H0 F2 H2 := ⟨fun _ _ h => h, a.keep, fun _ _ h => .inl h⟩
theorem s_for {iter : Expr} {body : List Stmt} {fi : DEs} (hp : PassesOwn (model X.prog X.w) X.A X.env X.xe) (hc : X.calm = true) (hi : PI X tg iter (tI X.K fi)) (hg : PG X tg (tG X.K is g)) (hb : PSs X body (tS X.K s))
    (hs : ∀ x, foldedSetIterable iter X.env x = pure x := by intro _; rfl) : PS X (.For tg iter body [] pos) (tS X.K (dFor fi g s)) :=
  ps_imp (ps_for hp hc hi hg hb hs) fun Dn σ H ⟨dr, F0, H0, F, env, T0, S, r, q⟩ => ⟨dr, H0, F, env, T0, r, Cm.All.mono (by
    intro items k J F' H' S' T' ok
    refine ⟨fun i m σ1 H1 => m = items.length - i ∧ i ≤ items.length ∧ ∃ F1 env1, Stt dr F1 H1 ∧ Step dr F0 H0 F1 H1 ∧ (∀ a o, F' a = some o → F1 a = some o) ∧ Rs X.K dr H0 F1 H1 σ1 env1 ∧ (forGo g s (items.drop i) env1).All (Post X.K dr F0 H0 Dn),
      ⟨items.length, by simp, Nat.zero_le _, F', env, T', S.trans S' T', fun _ _ h => h, r.step S', k⟩, ?_⟩
    rintro i m σ1 H1 ⟨rfl, hi, F1, env1, T1, S1, up1, r1, q1⟩
    by_cases hlt : i < items.length
    · have hd : items[i]? = some items[i] := by simp [hlt]
      obtain ⟨go, yl⟩ := ok.go F1 H1 i _ up1 T1 hd
      rw [List.drop_eq_getElem_cons hlt] at q1
      refine .inr ⟨go, fun σ2 H2 => ∃ F2 env2, Stt dr F2 H2 ∧ Step dr F0 H0 F2 H2 ∧ (∀ a o, F' a = some o → F2 a = some o) ∧ Rs X.K dr H0 F2 H2 σ2 env2 ∧ (forGo g s (items.drop (i + 1)) env2).All (Post X.K dr F0 H0 Dn), ?_, fun x H2 y => ?_⟩
      · rintro σ2 H2 ⟨F2, env2, h1, h2, h3, h4, h5⟩
        exact ⟨items.length - (i + 1), by omega, rfl, hlt, F2, env2, h1, h2, h3, h4, h5⟩
      · obtain ⟨F2, S2, T2, rv⟩ := yl x H2 y
        refine ⟨dr, H0, F2, env1, _, T2, r1.step S2, rv, Cm.All.mono ?_ (Cm.all_bind.mp q1)⟩
        intro env2 k2 σ2 r2 kp
        have SB := S1.trans S2 T2
        have up2 : ∀ a o, F' a = some o → F2 a = some o := fun a o h => S2.up a o (up1 a o h)
        refine ⟨dr, F2, H0, F2, env2, T2, SB.here, r2, Cm.All.mono ?_ (Cm.all_bind.mp k2)⟩
        intro o k3
        cases o with
        | nx e => exact fun σ3 F3 H3 T3 S3 r3 => ⟨F3, e, T3, SB.rebase S3, fun a o h => S3.up a o (up2 a o h), r3, k3⟩
        | ct e => exact fun σ3 F3 H3 T3 S3 r3 => ⟨F3, e, T3, SB.rebase S3, fun a o h => S3.up a o (up2 a o h), r3, k3⟩
        | bk e => exact fun σ3 F3 H3 T3 S3 r3 => k3 σ3 F3 H3 T3 (SB.rebase S3) r3
        | rt d => exact fun v F3 H3 T3 S3 r3 => k3 v F3 H3 T3 (SB.rebase S3) r3
    · have e : i = items.length := by omega
      subst e
      rw [List.drop_length] at q1
      exact .inl ⟨ok.stop F1 H1 _ up1 T1 (Nat.le_refl _), q1 σ1 F1 H1 T1 S1 r1⟩) (Cm.all_bind.mp q)⟩

/-! ### while -/
def whileGo (t : DT) (s : DS) : Nat → DS
  | 0, _ => .bad
  | n + 1, env => (t env).bind fun b => if b = true then (s env).bind fun o => match o with
      | .nx e => whileGo t s n e
      | .ct e => whileGo t s n e
      | .bk e => .ret (.nx e)
      | .rt d => .ret (.rt d)
    else .ret (.nx env)
theorem s_while (n : Nat) {c : Expr} {body : List Stmt} (hp : PassesOwn (model X.prog X.w) X.A X.env X.xe) (hc : PT X c (tT X.K t)) (hb : PSs X body (tS X.K s)) : PS X (.While c body [] pos) (tS X.K (whileGo t s n)) :=
  ps_imp (ps_while hp hc hb) fun Dn σ H ⟨dr, F0, H0, F, env, T0, S, r, q⟩ => by
    refine ⟨fun m σ1 H1 => ∃ F1 env1, Stt dr F1 H1 ∧ Step dr F0 H0 F1 H1 ∧ Rs X.K dr H0 F1 H1 σ1 env1 ∧ (whileGo t s m env1).All (Post X.K dr F0 H0 Dn), ⟨n, F, env, T0, S, r, q⟩, ?_⟩
    rintro m σ1 H1 ⟨F1, env1, T1, S1, r1, q1⟩
    cases m with
    | zero => exact q1.elim
    | succ m =>
      refine ⟨dr, H0, F1, env1, T1, r1, Cm.All.mono ?_ (Cm.all_bind.mp q1)⟩
      intro b k F2 H2 S2 T2
      have SB := S1.trans S2 T2
      cases b with
      | false => exact k σ1 F2 H2 T2 SB (r1.step S2)
      | true =>
        refine ⟨fun σ3 H3 => ∃ F3 env3, Stt dr F3 H3 ∧ Step dr F0 H0 F3 H3 ∧ Rs X.K dr H0 F3 H3 σ3 env3 ∧ (whileGo t s m env3).All (Post X.K dr F0 H0 Dn), fun σ3 H3 w => ⟨m, Nat.lt_succ_self m, w⟩, ?_⟩
        refine ⟨dr, F0, H0, F2, env1, T2, SB, r1.step S2, Cm.All.mono ?_ (Cm.all_bind.mp k)⟩
        intro o k3
        cases o with
        | nx e => exact fun σ3 F3 H3 T3 S3 r3 => ⟨F3, e, T3, S3, r3, k3⟩
        | ct e => exact fun σ3 F3 H3 T3 S3 r3 => ⟨F3, e, T3, S3, r3, k3⟩
        | bk e => exact fun σ3 F3 H3 T3 S3 r3 => k3 σ3 F3 H3 T3 S3 r3
        | rt d => exact fun v F3 H3 T3 S3 r3 => k3 v F3 H3 T3 S3 r3

/-! ### lists changed -/
def dApp (i : Nat) (f : DE) : DS := fun env => match env[i]? with
  | some (.own (.list ds)) => (f env).bind fun d => if ds.length < 1000000 ∧ flatD d = true then .ret (.nx (env.set i (.own (.list (ds ++ [d]))))) else .bad
  | _ => .bad
theorem dpa_one {K : PySem.W.Frag} {F : Hp} {v : V} {d : D} (h : Dp K F v d) : DpAll K F [v] [d] := .cons h .nil
theorem rp_flat {K : PySem.W.Frag} {dr : Dr} {F : Hp} {v : V} {d : D} (h : Rp K dr F v d) (n : flatD d = true) : Dp K F v d := rp_dp h fun kvs e => by rw [e] at n; exact absurd n (by simp [flatD])
theorem s_app {i : Nat} {o : Expr} {apos epos : Pos} (ho : PE X o (tVar i)) (he : PE X e (tE X.K f))
    (h : ∀ {to : TE} {t : TA}, PE X o to → PA X [e] t → PE X (.Call (.Attribute o "append" apos) [e] [] epos) (tBM X.K "list" rAppend to t)) (hsw : swapsWith (.Call (.Attribute o "append" apos) [e] [] epos) none pos.line X.env = pure false := by rfl)
    (hst : starEach (e :: []) X.env = (false, eval e X.env) :: starEach [] X.env := by rfl) :
    PS X (.Expr (.Call (.Attribute o "append" apos) [e] [] epos) pos) (tS X.K (dApp i f)) :=
  ps_imp (ps_expr (h ho (a_cons he a_nil hst)) hsw) fun Dn σ H ⟨dr, F0, H0, F, env, T0, S, r, q⟩ => by
    unfold dApp at q
    split at q
    · rename_i ds hi
      obtain ⟨o1, ho1, p, hq, hB, hF, hn, vs, hv, ha⟩ := r.ok i _ hi
      subst hq
      refine ⟨_, ho1, .inl ⟨rfl, vs, .inl (.inl hv)⟩, dr, H0, F, env, T0, r, ?_⟩
      refine Cm.all_bind.mpr (Cm.All.mono ?_ (Cm.all_bind.mp q))
      intro d k us F' H' S' T' rv
      cases rv with
      | cons r1 rv =>
        cases rv
        split at k
        · rename_i hc
          have hv' := S'.keep p _ hn hv
          refine ⟨p, vs, _, rfl, rfl, hv', by rw [dpa_len ha]; exact Nat.lt_of_lt_of_le hc.1 (by decide), ?_⟩
          have r' := r.step S'
          obtain ⟨R2, T2, hb⟩ := r'.write T' (o := .lst (vs ++ [_])) (d' := .list (ds ++ [d])) hi ho1 ⟨_, upd_same, dpa_app (dpa_up S'.up _ _ ha) (dpa_one (rp_flat r1 hc.2))⟩
          exact k σ F' _ T2 (step_write (S.trans S' T') hB) R2
        · exact k.elim
    · exact q.elim
/-- a list whose object is its own alone: new, or a slot's -/
def tX (K : PySem.W.Frag) (f : DE) : TE := fun σ H Q => ∃ dr B F env, Stt dr F H ∧ Rs K dr B F H σ env ∧
  (f env).All fun d => ∀ p F' H', Step dr F H F' H' → Stt dr F' H' → (∃ ds vs, d = .list ds ∧ H' p = some (.lst vs) ∧ DpAll K F' vs ds) → Q (.ref p) H'
theorem x_f (h : PE X e (tF X.K f)) : PE X e (tX X.K (dOnlyL f)) := pe_imp h fun σ H Q ⟨dr, B, F, env, T0, r, q⟩ => ⟨dr, B, F, env, T0, r, Cm.All.mono (by
  intro d k p F1 H1 S1 T1 hp nf o
  rcases dict_no o with ⟨ds, rfl⟩ | ⟨kvs, rfl⟩
  · obtain ⟨vs, e1, ha⟩ := o
    exact k p F1 H1 S1 T1 ⟨ds, vs, rfl, e1, ha⟩
  · exact k.elim) (Cm.all_bind.mp q)⟩
def dPeekOwn (i : Nat) : DE := fun env => match env[i]? with
  | some (.own (.list ds)) => .ret (.list ds)
  | _ => .bad
theorem x_var {i : Nat} (h : PE X e (tVar i)) : PE X e (tX X.K (dPeekOwn i)) := pe_imp h fun σ H Q ⟨dr, B, F, env, T0, r, q⟩ => by
  unfold dPeekOwn at q
  split at q
  · rename_i d hd
    obtain ⟨o, ho, p, hv, hb, hf, hn, vs, hv2, ha⟩ := r.ok i _ hd
    subst hv
    exact ⟨_, ho, q _ F H .refl T0 ⟨_, vs, rfl, hv2, ha⟩⟩
  · exact q.elim
theorem x_ifExp {c : Expr} (hc : PT X c (tT X.K t)) (ha : PE X a (tX X.K f1)) (hb : PE X b (tX X.K f2)) : PE X (.IfExp c a b pos) (tX X.K (dIf t f1 f2)) :=
  pe_imp (pe_ifExp hc ha hb) fun σ H Q ⟨dr, B, F, env, s, r, q⟩ => ⟨dr, B, F, env, s, r, Cm.All.mono (fun c k F1 H1 S1 T1 => by
    cases c with
    | true => exact ⟨dr, B, F1, env, T1, r.step S1, Cm.All.mono (fun d k3 v F3 H3 S3 T3 => k3 v F3 H3 (S1.trans S3 T3) T3) k⟩
    | false => exact ⟨dr, B, F1, env, T1, r.step S1, Cm.All.mono (fun d k3 v F3 H3 S3 T3 => k3 v F3 H3 (S1.trans S3 T3) T3) k⟩) (Cm.all_bind.mp q)⟩
def dExt (i : Nat) (f : DE) : DS := fun env => match env[i]? with
  | some (.own (.list ds)) => (f env).bind fun d => match d with
    | .list es => if ds.length + es.length < 1000000 then .ret (.nx (env.set i (.own (.list (ds ++ es))))) else .bad
    | _ => .bad
  | _ => .bad
theorem s_ext {i : Nat} {o : Expr} {apos epos : Pos} (ho : PE X o (tVar i)) (he : PE X e (tX X.K f))
    (h : ∀ {to : TE} {t : TA}, PE X o to → PA X [e] t → PE X (.Call (.Attribute o "extend" apos) [e] [] epos) (tBM X.K "list" rExtend to t)) (hsw : swapsWith (.Call (.Attribute o "extend" apos) [e] [] epos) none pos.line X.env = pure false := by rfl)
    (hst : starEach (e :: []) X.env = (false, eval e X.env) :: starEach [] X.env := by rfl) :
    PS X (.Expr (.Call (.Attribute o "extend" apos) [e] [] epos) pos) (tS X.K (dExt i f)) :=
  ps_imp (ps_expr (h ho (pa_cons he pa_nil hst)) hsw) fun Dn σ H ⟨dr, F0, H0, F, env, T0, S, r, q⟩ => by
    unfold dExt at q
    split at q
    · rename_i ds hi
      obtain ⟨o1, ho1, p, hq, hB, hF, hn, vs, hv, ha⟩ := r.ok i _ hi
      subst hq
      refine ⟨_, ho1, .inl ⟨rfl, vs, .inl (.inl hv)⟩, dr, H0, F, env, T0, r, Cm.All.mono ?_ (Cm.all_bind.mp q)⟩
      intro d k b F' H' S' T' ⟨es, ws, ed, hb, hw⟩
      subst ed
      have k' : (if ds.length + es.length < 1000000 then Cm.ret (Out.nx (env.set i (.own (.list (ds ++ es))))) else .bad).All (Post X.K dr F0 H0 Dn) := k
      split at k'
      · rename_i hc
        have hv' := S'.keep p _ hn hv
        refine ⟨p, b, vs, ws, rfl, rfl, hv', hb, by rw [dpa_len ha, dpa_len hw]; exact Nat.le_trans (Nat.le_of_lt hc) (by decide), ?_⟩
        have r' := r.step S'
        obtain ⟨R2, T2, hb2⟩ := r'.write T' (o := .lst (vs ++ ws)) (d' := .list (ds ++ es)) hi ho1 ⟨_, upd_same, dpa_app (dpa_up S'.up _ _ ha) hw⟩
        exact k' σ F' _ T2 (step_write (S.trans S' T') hB) R2
      · exact k'.elim
    · exact q.elim
/-- xs[j] = e -/
def dSetI (i : Nat) (fj f : DE) : DS := fun env => (f env).bind fun d => match env[i]? with
  | some (.own (.list ds)) => (fj env).bind fun dj => match dj with
    | .int k => match ixN ds.length k with
      | some j => if flatD d = true then .ret (.nx (env.set i (.own (.list (ds.set j d))))) else .bad
      | none => .bad
    | _ => .bad
  | _ => .bad
theorem dpa_set {K : PySem.W.Frag} {F : Hp} {v : V} {d : D} (h : Dp K F v d) : ∀ {vs : List V} {ds : List D} (j : Nat), DpAll K F vs ds → DpAll K F (vs.set j v) (ds.set j d)
  | _, _, _, .nil => .nil
  | _, _, 0, .cons _ t => .cons h t
  | _, _, j + 1, .cons r t => .cons r (dpa_set h j t)
theorem s_setI {i : Nat} {o j : Expr} {pos' : Pos} (ho : PE X o (tVar i)) (hj : PE X j (tE X.K f1)) (he : PE X e (tE X.K f))
    (ha : ∀ v, assign (.Subscript o j pos') X.env v = (do
      let ov ← holding [v] (eval o X.env)
      let iv ← holding [v, ov] (eval j X.env)
      standAt pos'
      holding [v, ov, iv] (setItem ov iv v)
      release [v, ov, iv] []) := by intro _; rfl)
    (hs : swapsWithSole [.Subscript o j pos'] e pos.line X.env = pure false := by rfl) (hw : swappedStores [.Subscript o j pos'] e X.env = pure none := by rfl)
    (h1 : (assignEach [.Subscript o j pos'] X.env).map (·.2) = [assign (.Subscript o j pos') X.env] := by rfl) :
    PS X (.Assign [.Subscript o j pos'] e pos) (tS X.K (dSetI i f1 f)) :=
  ps_imp (ps_asg he (pg_sub ho hj set_list ha) hs hw h1) fun Dn σ H ⟨dr, F0, H0, F, env, T0, S, r, q⟩ => ⟨dr, H0, F, env, T0, r, Cm.All.mono (by
    intro d k v F1 H1 S1 T1 r1
    split at k
    · rename_i ds hi
      have ra := r.step S1
      obtain ⟨o1, ho1, p, hq, hB, hF, hn, vs, hv, hx⟩ := ra.ok i _ hi
      subst hq
      refine ⟨_, ho1, dr, H0, F1, env, T1, ra, Cm.All.mono ?_ (Cm.all_bind.mp k)⟩
      intro dj k2 w F2 H2 S2 T2 r2
      split at k2
      · rename_i kk
        cases rp_int r2
        split at k2
        · rename_i jj hjj
          split at k2
          · rename_i hfl
            have hv' := S2.keep p _ hn hv
            refine ⟨p, vs, kk, jj, rfl, rfl, hv', by rw [dpa_len hx]; exact hjj, ?_⟩
            obtain ⟨R2, T3, hb2⟩ := (ra.step S2).write T2 (o := .lst (vs.set jj v)) (d' := .list (ds.set jj d)) hi ho1 ⟨_, upd_same, dpa_set (dp_up S2.up _ _ (rp_flat r1 hfl)) jj (dpa_up S2.up _ _ hx)⟩
            exact k2 σ F2 _ T3 (step_write ((S.trans S1 T1).trans S2 T2) hB) R2
          · exact k2.elim
        · exact k2.elim
      · exact k2.elim
    · exact k.elim) (Cm.all_bind.mp q)⟩
end
end Fs

set_option Elab.async false
set_option linter.all false
set_option maxRecDepth 100000
set_option maxHeartbeats 2000000
set_option autoImplicit false
namespace Fs
open PySem PySem.Spec PyProof.Rows L2

/-! ### comprehensions -/
def wipeE (env : Env) : List Nat → Env
  | [] => env
  | v :: vs => (wipeE env vs).set v .no
theorem Rs.setNo {K : PySem.W.Frag} {dr : Dr} {B F H : Hp} {σ : L2.St} {env : Env} (r : Rs K dr B F H σ env) (i : Nat) : Rs K dr B F H (σ.set i none) (env.set i .no) where
  len := by rw [List.length_set, List.length_set]; exact r.len
  ok := fun j s e => by
    by_cases hj : i = j
    · subst hj
      by_cases hi : i < env.length
      · rw [List.getElem?_set_self hi] at e
        cases e
        rw [List.getElem?_set_self (by rw [r.len]; exact hi)]
        exact ⟨_, rfl, trivial⟩
      · rw [List.getElem?_eq_none (by simpa using hi)] at e; cases e
    · rw [List.getElem?_set_ne hj] at e
      rw [List.getElem?_set_ne hj]
      exact r.ok j s e
  apart := fun j k p d1 d2 e1 e2 s1 s2 => by
    have aux : ∀ (j : Nat) (d1 : D), (env.set i Slot.no)[j]? = some (Slot.own d1) → i ≠ j := fun j d1 e1 hj => by
      subst hj
      by_cases hi : i < env.length
      · rw [List.getElem?_set_self hi] at e1; cases e1
      · rw [List.getElem?_eq_none (by simpa using hi)] at e1; cases e1
    have n1 := aux j d1 e1
    have n2 := aux k d2 e2
    rw [List.getElem?_set_ne n1] at e1 s1
    rw [List.getElem?_set_ne n2] at e2 s2
    exact r.apart j k p d1 d2 e1 e2 s1 s2
theorem Rs.wipe {K : PySem.W.Frag} {dr : Dr} {B F H : Hp} {σ : L2.St} {env : Env} (r : Rs K dr B F H σ env) : ∀ vs : List Nat, Rs K dr B F H (L2.wipe σ vs) (wipeE env vs)
  | [] => r
  | v :: vs => (Rs.wipe r vs).setNo v
theorem wipe_get (σ : L2.St) (i : Nat) : ∀ vs : List Nat, (L2.wipe σ vs)[i]? = if i ∈ vs then (if i < σ.length then some none else none) else σ[i]?
  | [] => by simp [L2.wipe]
  | v :: vs => by
    unfold L2.wipe
    by_cases h : v = i
    · subst h
      rw [if_pos List.mem_cons_self]
      by_cases hl : v < σ.length
      · rw [if_pos hl, List.getElem?_set_self (by rw [wipe_length]; exact hl)]
      · rw [if_neg hl, List.getElem?_eq_none (by rw [List.length_set, wipe_length]; omega)]
    · rw [List.getElem?_set_ne h, wipe_get σ i vs]
      by_cases hm : i ∈ vs
      · rw [if_pos hm, if_pos (List.mem_cons_of_mem _ hm)]
      · rw [if_neg hm, if_neg (fun z => by rcases List.mem_cons.mp z with z | z; exact h z.symm; exact hm z)]
theorem wipe_keeps {is vs : List Nat} {σ σ' : L2.St} (k : Keeps is (L2.wipe σ vs) σ') (h : ∀ i ∈ is, i ∈ vs) : L2.wipe σ' vs = L2.wipe σ vs := by
  apply List.ext_getElem?
  intro i
  have hl : σ'.length = σ.length := by rw [k.1, wipe_length]
  rw [wipe_get σ' i vs, wipe_get σ i vs, hl]
  by_cases hm : i ∈ vs
  · rw [if_pos hm, if_pos hm]
  · rw [if_neg hm, if_neg hm, k.2 i (fun z => hm (h i z)), wipe_get, if_neg hm]
/-- the items that a comprehension makes, from the left -/
def lcGo (g : DTg) (t : DT) (f : DE) : List D → Env → Cm (List D)
  | [], _ => .ret []
  | d :: ds, env => (g d env).bind fun e1 => (t e1).bind fun b => if b = true then (f e1).bind fun y => if flatD y = true then (lcGo g t f ds env).bind fun ys => .ret (y :: ys) else .bad
    else lcGo g t f ds env
def dLc (fi : DEs) (g : DTg) (t : DT) (f : DE) (vs : List Nat) : DE := fun env => (fi env).bind fun items => if items.length < 1000000 then (lcGo g t f items (wipeE env vs)).bind fun ys => .ret (.list ys) else .bad
def dYes : DT := fun _ => .ret true
section
variable {X : Cx} {tg e a b c elt iter : Expr} {es : List Expr} {f f1 f2 f3 : DE} {fs fi : DEs} {t u : DT} {pos : Pos} {is js : List Nat} {g : DTg} {gs : DTgs} {s s1 s2 : DS}
theorem pts_imp {X : Cx} {e : List Expr} {t t' : TT} (h : PTs X e t) (i : ∀ σ H Q, t' σ H Q → t σ H Q) : PTs X e t' := ⟨fun p s σ H Q I q => h.run p s σ H Q I (i _ _ _ q)⟩
theorem ts_nil : PTs X [] (tT X.K dYes) := pts_imp pts_nil fun σ H Q ⟨dr, B, F, env, s, r, q⟩ => q F H .refl s
theorem ts_one (h : PT X c (tT X.K t)) : PTs X [c] (tT X.K t) := pts_one h
theorem lc_red {K : PySem.W.Frag} {vs0 : List Nat} (hsub : ∀ i ∈ is, i ∈ vs0) {σ : L2.St} {H : Hp} {Q : VK} (h0 : tF K (dLc fi g t f vs0) σ H Q) : tLc (tI K fi) (tG K is g) (tT K t) (tE K f) vs0 σ H Q :=
  let ⟨dr, B, F, env, T0, r, q⟩ := h0
  ⟨dr, B, F, env, T0, r, Cm.All.mono (by
    intro items k J F1 H1 S1 T1 ok1 Dd hD
    split at k
    · rename_i hlen
      have k := Cm.all_bind.mp k
      obtain ⟨S2, T2, nf⟩ := lay_own T1 hD (.lst [])
      have ndD := not_dr T1 hD
      have hD0 : H Dd = none := by
        cases z : H Dd with
        | none => rfl
        | some o => have := S1.keep Dd o ndD z; rw [hD] at this; cases this
      refine ⟨fun i m H2 => m = items.length - i ∧ i ≤ items.length ∧ ∃ F2 acc ds, Stt dr F2 H2 ∧ Step dr F H F2 H2 ∧ (∀ a o, F1 a = some o → F2 a = some o) ∧ F2 Dd = none ∧ H2 Dd = some (.lst acc) ∧ DpAll K F2 acc ds ∧ acc.length ≤ i ∧
          (lcGo g t f (items.drop i) (wipeE env vs0)).All (fun ys => ∀ p F' H', Step dr F H F' H' → Stt dr F' H' → H p = none → F' p = none → OwnAt K F' H' p (.list (ds ++ ys)) → Q (.ref p) H') ∧ Rs K dr B F2 H2 σ env,
        ⟨items.length, by simp, Nat.zero_le _, F1, [], [], T2, S1.trans S2 T2, fun _ _ h => h, nf, upd_same, .nil, Nat.le_refl _, k, (r.step S1).step S2⟩, ?_⟩
      rintro i m H2 ⟨rfl, hi2, F2, acc, ds, T3, S3, up3, nf3, hv3, ha3, hl3, q3, r3⟩
      by_cases hlt : i < items.length
      · have hd : items[i]? = some items[i] := by simp [hlt]
        obtain ⟨go, yl⟩ := ok1.go F2 H2 i _ up3 T3 hd
        rw [List.drop_eq_getElem_cons hlt] at q3
        refine .inr ⟨go, fun H4 => ∃ F4 acc ds, Stt dr F4 H4 ∧ Step dr F H F4 H4 ∧ (∀ a o, F1 a = some o → F4 a = some o) ∧ F4 Dd = none ∧ H4 Dd = some (.lst acc) ∧ DpAll K F4 acc ds ∧ acc.length ≤ i + 1 ∧
          (lcGo g t f (items.drop (i + 1)) (wipeE env vs0)).All (fun ys => ∀ p F' H', Step dr F H F' H' → Stt dr F' H' → H p = none → F' p = none → OwnAt K F' H' p (.list (ds ++ ys)) → Q (.ref p) H') ∧ Rs K dr B F4 H4 σ env, ?_, fun x H4 y => ?_⟩
        · rintro H4 ⟨F4, acc4, ds4, h⟩
          exact ⟨items.length - (i + 1), by omega, rfl, hlt, F4, acc4, ds4, h⟩
        · obtain ⟨F4, S4, T4, rv⟩ := yl x H4 y
          have rw4 := (r3.step S4).wipe vs0
          refine ⟨dr, B, F4, _, _, T4, rw4, rv, Cm.All.mono ?_ (Cm.all_bind.mp q3)⟩
          intro e1 k1 σ1 r1 kp
          refine ⟨wipe_keeps kp hsub, dr, B, F4, e1, T4, r1, Cm.All.mono ?_ (Cm.all_bind.mp k1)⟩
          intro bb k2 F5 H5 S5 T5
          have nf4 : F4 Dd = none := S4.still nf3 hv3
          have hv4 : H4 Dd = some (.lst acc) := S4.keep _ _ ndD hv3
          have nf5 : F5 Dd = none := S5.still nf4 hv4
          have hv5 : H5 Dd = some (.lst acc) := S5.keep _ _ ndD hv4
          have up5 : ∀ a o, F1 a = some o → F5 a = some o := fun a o h => S5.up a o (S4.up a o (up3 a o h))
          have SS5 := (S3.trans S4 T4).trans S5 T5
          have ha5 := dpa_up S5.up _ _ (dpa_up S4.up _ _ ha3)
          cases bb with
          | false => exact ⟨F5, acc, ds, T5, SS5, up5, nf5, hv5, ha5, Nat.le_succ_of_le hl3, k2, (r3.step S4).step S5⟩
          | true =>
            refine ⟨dr, B, F5, e1, T5, r1.step S5, Cm.All.mono ?_ (Cm.all_bind.mp k2)⟩
            intro yd k3 yv F6 H6 S6 T6 ry
            split at k3
            · rename_i hfl
              have nf6 : F6 Dd = none := S6.still nf5 hv5
              have hv6 : H6 Dd = some (.lst acc) := S6.keep _ _ ndD hv5
              refine ⟨acc, hv6, Nat.lt_of_le_of_lt hl3 (Nat.lt_of_lt_of_le (Nat.lt_trans hlt hlen) (by decide)), ?_⟩
              have T7 : Stt dr F6 (upd H6 Dd (.lst (acc ++ [yv]))) := ⟨fun a u e => by rw [upd_ne (ne_of_none e nf6)]; exact T6.sub _ _ e, T6.drw.upd ndD, T6.nodr⟩
              have SS6 := SS5.trans S6 T6
              have rr6 := ((r3.step S4).step S5).step S6
              refine ⟨F6, acc ++ [yv], ds ++ [yd], T7, ⟨SS6.up, fun a u n e => by rw [upd_ne (ne_of_none e hD0)]; exact SS6.keep a u n e, SS6.new⟩, fun a o h => S6.up a o (up5 a o h), nf6, upd_same, dpa_app (dpa_up S6.up _ _ ha5) (dpa_one (rp_flat ry hfl)), by rw [List.length_append]; exact Nat.succ_le_succ hl3, ?_, ?_⟩
              · refine Cm.All.mono ?_ (Cm.all_bind.mp k3)
                intro ys k4
                rw [List.append_assoc]
                exact k4
              · refine ⟨rr6.len, fun j s e => ?_, rr6.apart⟩
                obtain ⟨o, h1, h2⟩ := rr6.ok j s e
                refine ⟨o, h1, ?_⟩
                cases s with
                | no => trivial
                | val d => exact h2
                | own d =>
                  obtain ⟨p, e1, b1, f1, n1, w1⟩ := h2
                  refine ⟨p, e1, b1, f1, n1, ?_⟩
                  -- Dd is no slot's object
                  have hp : p ≠ Dd := fun z => by
                    subst z
                    obtain ⟨o3, g1, g2⟩ := r.ok j _ e
                    rw [h1] at g1
                    cases g1
                    obtain ⟨p3, e3, _, _, _, w3⟩ := g2
                    rw [e1] at e3
                    cases e3
                    obtain ⟨u, hu⟩ := w3.there
                    rw [hD0] at hu; cases hu
                  cases d with
                  | list ds => obtain ⟨vs, e3, r3⟩ := w1; exact ⟨vs, by rw [upd_ne hp]; exact e3, r3⟩
                  | dict kvs => obtain ⟨vs, e3, r3⟩ := w1; exact ⟨vs, by rw [upd_ne hp]; exact e3, r3⟩
                  | none => exact w1
                  | bool _ => exact w1
                  | int _ => exact w1
                  | str _ => exact w1
                  | tuple _ => exact w1
            · exact k3.elim
      · have e : i = items.length := by omega
        subst e
        rw [List.drop_length] at q3
        refine .inl ⟨ok1.stop F2 H2 _ up3 T3 (Nat.le_refl _), ?_⟩
        have q3' := q3 Dd F2 H2 S3 T3 hD0 nf3
        rw [List.append_nil] at q3'
        exact q3' ⟨acc, hv3, ha3⟩
    · exact k.elim) (Cm.all_bind.mp q)⟩

theorem f_lc {ifs : List Expr} {scope : Scope} {own : List (Str × Nat)} (hc : X.calm = true) (hN : X.N.Nodup) (hi : PI X tg iter (tI X.K fi)) (ok : BlkOk X.N X.env.scope scope own)
    (hg : ∀ (s : Shared) (H : Hp) (C : Addr) (cl : List (Str × Addr)) (fp : List Addr), PG (X.blk s H scope (compEnvC scope cl C X.env) fp) tg (tG X.K is g)) (ht : ∀ (s : Shared) (H : Hp) (C : Addr) (cl : List (Str × Addr)) (fp : List Addr), PTs (X.blk s H scope (compEnvC scope cl C X.env) fp) ifs (tT X.K t))
    (he : ∀ (s : Shared) (H : Hp) (C : Addr) (cl : List (Str × Addr)) (fp : List Addr), PE (X.blk s H scope (compEnvC scope cl C X.env) fp) elt (tE X.K f)) (hsub : ∀ i ∈ is, i ∈ own.map (·.2)) (hs : ∀ x, foldedSetIterable iter X.env x = pure x := by intro _; rfl) :
    PE X (.ListComp elt [⟨tg, iter, ifs, 0⟩] scope pos) (tF X.K (dLc fi g t f (own.map (·.2)))) :=
  pe_imp (pe_lc hc hN hi ok hg ht he hs) fun σ H Q h => lc_red hsub h
/-- name = [..], on one line, the name a plain local -/
theorem s_setLcV {i : Nat} {y : Str} {py spos : Pos} {ifs : List Expr} {scope : Scope} {own : List (Str × Nat)} (hc : X.calm = true) (hN : X.N.Nodup) (hy : X.N[i]? = some y) (hyl : X.env.scope.names.lookup y = some .local)
    (hsw : swapsWith (.ListComp elt [⟨tg, iter, ifs, 0⟩] scope pos) (some (.Name y py)) spos.line X.env = pure true) (hi : PI X tg iter (tI X.K fi)) (ok : BlkOk X.N X.env.scope scope own)
    (hg : ∀ (s : Shared) (H : Hp) (C : Addr) (cl : List (Str × Addr)) (fp : List Addr), PG (X.blk s H scope (compEnvC scope cl C X.env) fp) tg (tG X.K is g)) (ht : ∀ (s : Shared) (H : Hp) (C : Addr) (cl : List (Str × Addr)) (fp : List Addr), PTs (X.blk s H scope (compEnvC scope cl C X.env) fp) ifs (tT X.K t))
    (he : ∀ (s : Shared) (H : Hp) (C : Addr) (cl : List (Str × Addr)) (fp : List Addr), PE (X.blk s H scope (compEnvC scope cl C X.env) fp) elt (tE X.K f)) (hsub : ∀ i ∈ is, i ∈ own.map (·.2)) (hs : ∀ x, foldedSetIterable iter X.env x = pure x := by intro _; rfl) :
    PS X (.Assign [.Name y py] (.ListComp elt [⟨tg, iter, ifs, 0⟩] scope pos) spos) (tS X.K (dSet i (dOnlyL (dLc fi g t f (own.map (·.2)))))) :=
  ps_imp (ps_setLc hc hN hy hyl hsw hi ok hg ht he hs) fun D σ H ⟨dr, F0, H0, F, env, s, S, r, q⟩ => by
    refine lc_red hsub (Q := fun x H1 => gName i x σ H1 D.nx) ⟨dr, H0, F, env, s, r, Cm.All.mono ?_ (Cm.all_bind.mp (Cm.all_bind.mp q))⟩
    intro d k p F1 H1 S1 T1 hp nf o
    rcases dict_no o with ⟨ds, rfl⟩ | ⟨kvs, rfl⟩
    · obtain ⟨vs, e1, ha⟩ := o
      have nd : ¬ dr.has p := not_dr s hp
      obtain ⟨T2, up⟩ := freeze T1 e1 nf nd
      have S2 : Step dr F H (upd F1 p (.lst vs)) H1 := ⟨fun a u e => up _ _ (S1.up a u e), S1.keep, fun a u e => by
        by_cases e2 : a = p
        · right; rw [e2]; exact hp
        · rw [upd_ne e2] at e; exact S1.new a u e⟩
      exact k _ (upd F1 p (.lst vs)) H1 T2 (S.trans S2 T2) ((r.step S2).setVal i (.dp (.lst (.inl (.inl upd_same)) (dpa_up up _ _ ha))))
    · exact k.elim
theorem s_setLcF {i : Nat} {y : Str} {py spos : Pos} {ifs : List Expr} {scope : Scope} {own : List (Str × Nat)} (hc : X.calm = true) (hN : X.N.Nodup) (hy : X.N[i]? = some y) (hyl : X.env.scope.names.lookup y = some .local)
    (hsw : swapsWith (.ListComp elt [⟨tg, iter, ifs, 0⟩] scope pos) (some (.Name y py)) spos.line X.env = pure true) (hi : PI X tg iter (tI X.K fi)) (ok : BlkOk X.N X.env.scope scope own)
    (hg : ∀ (s : Shared) (H : Hp) (C : Addr) (cl : List (Str × Addr)) (fp : List Addr), PG (X.blk s H scope (compEnvC scope cl C X.env) fp) tg (tG X.K is g)) (ht : ∀ (s : Shared) (H : Hp) (C : Addr) (cl : List (Str × Addr)) (fp : List Addr), PTs (X.blk s H scope (compEnvC scope cl C X.env) fp) ifs (tT X.K t))
    (he : ∀ (s : Shared) (H : Hp) (C : Addr) (cl : List (Str × Addr)) (fp : List Addr), PE (X.blk s H scope (compEnvC scope cl C X.env) fp) elt (tE X.K f)) (hsub : ∀ i ∈ is, i ∈ own.map (·.2)) (hs : ∀ x, foldedSetIterable iter X.env x = pure x := by intro _; rfl) :
    PS X (.Assign [.Name y py] (.ListComp elt [⟨tg, iter, ifs, 0⟩] scope pos) spos) (tS X.K (dSetF i (dLc fi g t f (own.map (·.2))))) :=
  ps_imp (ps_setLc hc hN hy hyl hsw hi ok hg ht he hs) fun D σ H ⟨dr, F0, H0, F, env, s, S, r, q⟩ => by
    refine lc_red hsub (Q := fun x H1 => gName i x σ H1 D.nx) ⟨dr, H0, F, env, s, r, Cm.All.mono ?_ (Cm.all_bind.mp q)⟩
    intro d k p F' H' S' T' hp nf o
    refine k _ F' H' T' (S.trans S' T') (r.newOwn S' s hp ?_ nf o)
    cases z : H0 p with
    | none => rfl
    | some u => have := S.keep p u (not_dr s hp) z; rw [hp] at this; cases this

/-! ### a def by its body -/
def sEnv (n : Nat) (ds : List D) : Env := ds.map .val ++ List.replicate (n - ds.length) .no
def RetP (P : D → Prop) : Out → Prop
  | .rt d => P d
  | .nx _ => P .none
  | _ => False
theorem paired_get {α β : Type} {R : α → β → Prop} : ∀ {xs : List α} {ys : List β} {i : Nat} {y : β}, Paired R xs ys → ys[i]? = some y → ∃ x, xs[i]? = some x ∧ R x y
  | _, _, _, _, .nil, e => by simp at e
  | _, _, 0, _, .cons r _, e => by simp at e; subst e; exact ⟨_, rfl, r⟩
  | _, _, i + 1, y, .cons _ t, e => by
    obtain ⟨x, h1, h2⟩ := paired_get (i := i) (y := y) t (by simpa using e)
    exact ⟨x, by simpa using h1, h2⟩
theorem rs_start {K : PySem.W.Frag} {dr : Dr} {B F H : Hp} {N : List Str} {vs : List V} {ds : List D} (h : Paired (Rp K dr F) vs ds) : Rs K dr B F H (L2.start N vs) (sEnv N.length ds) := by
  have hl := h.length
  refine ⟨by unfold L2.start sEnv; simp [hl], fun i s e => ?_, fun i j p d1 d2 e1 => ?_⟩
  · unfold sEnv at e
    unfold L2.start
    by_cases hi : i < ds.length
    · rw [List.getElem?_append_left (by simpa using hi), List.getElem?_map] at e
      rw [List.getElem?_append_left (by simpa [hl] using hi), List.getElem?_map]
      have hd : ds[i]? = some ds[i] := by simp [hi]
      obtain ⟨v, hv, rv⟩ := paired_get h hd
      rw [hd] at e
      cases e
      rw [hv]
      exact ⟨_, rfl, v, rfl, rv⟩
    · rw [List.getElem?_append_right (by simp; omega)] at e
      rw [List.getElem?_append_right (by simp; omega)]
      rw [List.getElem?_replicate] at e ⊢
      simp only [List.length_map] at e ⊢
      rw [hl]
      split at e
      · rename_i h2
        cases e
        rw [if_pos h2]
        exact ⟨_, rfl, trivial⟩
      · cases e
  · exfalso
    unfold sEnv at e1
    by_cases hi : i < ds.length
    · rw [List.getElem?_append_left (by simpa using hi), List.getElem?_map] at e1
      have hd : ds[i]? = some ds[i] := by simp [hi]
      rw [hd] at e1; cases e1
    · rw [List.getElem?_append_right (by simp; omega), List.getElem?_replicate] at e1
      split at e1 <;> cases e1
/-- THE RULE for a def: its body's meaning s, and that g asks no less than s -/
theorem fn_ok {P : Program} {w : World} {K : PySem.W.Frag} {mg : Str → Option Value} {base : Heap} {x qual : Str} {st : Stmt} {f : Addr} {fd : FuncData} {N ps : List Str} {k : Nat} {g : List D → Cm D} (F : Fun K x qual st f fd) (S : FnScope N ps (defScope st)) (s : DS)
    (hbody : ∀ (cdv : Value) (A : Around) (outer : List PySem.Env) (sh : Shared) (H : Hp), Room k (A.deeper (envOfC qual (defScope st) sh.heap.objs.size f cdv)) →
      PSs (cxOf CX0 P w K mg base N qual (defScope st) f cdv A outer sh H E0).nox (defBody st) (tS K s))
    (hg : ∀ (ds : List D) (Pd : D → Prop), ds.length = ps.length → (g ds).All Pd → (s (sEnv N.length ds)).All (RetP Pd)) :
    FnOk P w K mg base CX0 (k + 1) f fd ps (spD K ps.length g) := by
  refine F.ok S (fun vs H Q E h => ?_) (fun cdv A outer sh H vs Q E hr h => ?_)
  · obtain ⟨dr, F, ds, _, h1, h2, _⟩ := h
    rw [h1.length, h2]
  · obtain ⟨dr, F0, ds, T, h1, h2, q⟩ := h
    refine ⟨_, hbody cdv A outer sh H hr, dr, F0, H, F0, sEnv N.length ds, T, .refl, rs_start h1, Cm.All.mono (fun o k => ?_) (hg ds _ h2 q)⟩
    cases o with
    | rt d => exact fun v F' H' T' S' r => k v F' H' S' T' r
    | nx e => exact fun σ F' H' T' S' r => k _ F' H' S' T' (.dp .non)
    | bk e => exact k.elim
    | ct e => exact k.elim
/-- what a def's meaning hands back -/
def outD : Out → Cm D
  | .rt d => .ret d
  | .nx _ => .ret .none
  | _ => .bad
def fnD (n : Nat) (s : DS) : List D → Cm D := fun ds => (s (sEnv n ds)).bind outD
theorem fnD_ok {n : Nat} {s : DS} {ds : List D} {Pd : D → Prop} (h : (fnD n s ds).All Pd) : (s (sEnv n ds)).All (RetP Pd) :=
  Cm.All.mono (fun o k => by cases o <;> exact k) (Cm.all_bind.mp h)
/-- a def of the text, as it stands -/
structure DefAt (K : PySem.W.Frag) (mg : Str → Option Value) (x : Str) (st : Stmt) (ps : List Str) : Prop where
  ex : ∃ (fa : Addr) (fd : FuncData), Fun K x x st fa fd ∧ L2.Binds K fd ps [] ∧ mg x = some (.ref fa)
/-- a def with what it hands back -/
structure Has (P : Program) (w : World) (K : PySem.W.Frag) (mg : Str → Option Value) (base : Heap) (k : Nat) (x : Str) (ps : List Str) (g : List D → Cm D) : Prop where
  ex : ∃ (fa : Addr) (fd : FuncData), FnOk P w K mg base CX0 k fa fd ps (spD K ps.length g) ∧ mg x = some (.ref fa) ∧ PySem.W.keepIn K (.ref fa) = true ∧ L2.Binds K fd ps []
theorem has_mk {P : Program} {w : World} {K : PySem.W.Frag} {mg : Str → Option Value} {base : Heap} {x : Str} {st : Stmt} {N ps : List Str} (k : Nat) (A0 : DefAt K mg x st ps) (S : FnScope N ps (defScope st)) (s : DS)
    (hbody : ∀ (f : Addr) (cdv : Value) (A : Around) (outer : List PySem.Env) (sh : Shared) (H : Hp), Room k (A.deeper (envOfC x (defScope st) sh.heap.objs.size f cdv)) →
      PSs (cxOf CX0 P w K mg base N x (defScope st) f cdv A outer sh H E0).nox (defBody st) (tS K s)) : Has P w K mg base (k + 1) x ps (fnD N.length s) := by
  obtain ⟨fa, fd, F, b, m⟩ := A0.ex
  exact ⟨fa, fd, fn_ok F S s (fun cdv A outer sh H hr => hbody fa cdv A outer sh H hr) fun ds Pd _ h => fnD_ok h, m, F.kp, b⟩
theorem e_callH {n : Nat} {e : Expr} {es : List Expr} {fs : DEs} {pos : Pos} {k : Nat} {ps : List Str} {x : Str} {p : Pos} {g : List D → Cm D} (h : Has X.prog X.w X.K X.mg X.base k x ps g) (hr : Room k X.A) (hg : Gl X x)
    (ha : PA X (e :: es) (tA X.K fs)) (hdb : (x == ("__debug__" : Str)) = false := by decide) (he : starEach (e :: es) X.env = (false, eval e X.env) :: starEach es X.env := by rfl) (hpl : (backTo pos (starEach es X.env)).any (·.1) = false := by rfl) (hn : ps.length = n := by rfl) :
    PE X (.Call (.Name x p) (e :: es) [] pos) (tE X.K (dCallN n g fs)) := by
  subst hn
  obtain ⟨fa, fd, FO, m, kp, b⟩ := h.ex
  exact e_call FO hr hg m kp b ha hdb he hpl
theorem e_callH0 {pos : Pos} {k : Nat} {x : Str} {p : Pos} {g : List D → Cm D} (h : Has X.prog X.w X.K X.mg X.base k x [] g) (hr : Room k X.A) (hg : Gl X x) (hdb : (x == ("__debug__" : Str)) = false := by decide) :
    PE X (.Call (.Name x p) [] [] pos) (tE X.K (dCallN 0 g dNil)) := by
  obtain ⟨fa, fd, FO, m, kp, b⟩ := h.ex
  exact e_call0 FO hr hg m kp b hdb
/-- a module's constant -/
structure CstAt (K : PySem.W.Frag) (mg : Str → Option Value) (x : Str) (d : D) : Prop where
  ex : ∃ (v : V) (u : Value), mg x = some u ∧ RelV v u ∧ ∀ F, Dp K F v d
theorem e_cst {x : Str} {d : D} {pos : Pos} (h : CstAt X.K X.mg x d) (hg : Gl X x) (hd : (x == ("__debug__" : Str)) = false := by decide) : PE X (.Name x pos) (tE X.K (dCst d)) := by
  obtain ⟨v, u, m, r, dp⟩ := h.ex
  exact e_glob (pe_glob hg m r hd) dp
theorem hu65 {k : Nat} {A : Around} (hr : Room k A) : A.units + 65 < cLine := by have := hr.un; omega
end
end Fs

set_option Elab.async false
set_option linter.all false
set_option maxRecDepth 100000
set_option maxHeartbeats 2000000
set_option autoImplicit false
namespace Fs
open PySem PySem.Spec PyProof.Rows L2

/-! ### what a looked-at value is -/
section
variable {K : PySem.W.Frag} {dr : Dr} {F H : Hp} {v : V}
theorem bp_bl {b : Bool} (h : Bp K dr F H v (.bool b)) : v = .bl b := by
  cases h with
  | r h => exact bl_of h
  | own _ _ h => exact h.elim
theorem bp_list {ds : List D} (s : Stt dr F H) (h : Bp K dr F H v (.list ds)) : ∃ p vs, v = .ref p ∧ SqL K H p vs ∧ DpAll K F vs ds := by
  cases h with
  | r h =>
    cases h with
    | dp z =>
      cases z with
      | lst hs ha => exact ⟨_, _, rfl, sql_up s.sub hs, ha⟩
  | own _ _ h => obtain ⟨vs, h1, h2⟩ := h; exact ⟨_, vs, rfl, .inl (.inl h1), h2⟩
theorem bp_tup {ds : List D} (h : Bp K dr F H v (.tuple ds)) : ∃ p vs, v = .ref p ∧ SqT K F p vs ∧ DpAll K F vs ds := by
  cases h with
  | r h =>
    cases h with
    | dp z =>
      cases z with
      | tup hs ha => exact ⟨_, _, rfl, hs, ha⟩
  | own _ _ h => exact h.elim
theorem bp_dp {d : D} (s : Stt dr F H) (h : Bp K dr F H v d) (n : flatD d = true) : Dp K H v d := by
  cases h with
  | r h => exact dp_up s.sub _ _ (rp_flat h n)
  | own f nd o =>
    cases d with
    | list ds => obtain ⟨vs, h1, h2⟩ := o; exact .lst (.inl (.inl h1)) (dpa_up s.sub _ _ h2)
    | dict kvs => exact absurd n (by simp [flatD])
    | none => exact o.elim
    | bool _ => exact o.elim
    | int _ => exact o.elim
    | str _ => exact o.elim
    | tuple _ => exact o.elim
def asInts : List D → Option (List Int)
  | [] => some []
  | .int i :: r => (asInts r).map (i :: ·)
  | _ => none
theorem asInts_eq : ∀ {ds : List D} {ns : List Int}, asInts ds = some ns → ds = ns.map .int
  | [], _, h => by cases h; rfl
  | .int i :: r, ns, h => by
    simp only [asInts] at h
    cases e : asInts r with
    | none => rw [e] at h; cases h
    | some m => rw [e] at h; cases h; rw [asInts_eq e]; rfl
  | .none :: _, _, h => by cases h
  | .bool _ :: _, _, h => by cases h
  | .str _ :: _, _, h => by cases h
  | .list _ :: _, _, h => by cases h
  | .tuple _ :: _, _, h => by cases h
  | .dict _ :: _, _, h => by cases h
@[simp] theorem asInts_map : ∀ ns : List Int, asInts (ns.map .int) = some ns
  | [] => rfl
  | n :: r => by simp only [List.map_cons, asInts, asInts_map r, Option.map_some]
def asBools : List D → Option (List Bool)
  | [] => some []
  | .bool i :: r => (asBools r).map (i :: ·)
  | _ => none
theorem asBools_eq : ∀ {ds : List D} {ns : List Bool}, asBools ds = some ns → ds = ns.map .bool
  | [], _, h => by cases h; rfl
  | .bool i :: r, ns, h => by
    simp only [asBools] at h
    cases e : asBools r with
    | none => rw [e] at h; cases h
    | some m => rw [e] at h; cases h; rw [asBools_eq e]; rfl
  | .none :: _, _, h => by cases h
  | .int _ :: _, _, h => by cases h
  | .str _ :: _, _, h => by cases h
  | .list _ :: _, _, h => by cases h
  | .tuple _ :: _, _, h => by cases h
  | .dict _ :: _, _, h => by cases h
@[simp] theorem asBools_map : ∀ ns : List Bool, asBools (ns.map .bool) = some ns
  | [] => rfl
  | n :: r => by simp only [List.map_cons, asBools, asBools_map r, Option.map_some]
theorem dpa_ints : ∀ {ns : List Int} {vs : List V}, DpAll K F vs (ns.map .int) → vs = ns.map V.int
  | [], _, h => by cases h; rfl
  | n :: r, _, h => by
    cases h with
    | cons h1 h2 => cases h1; rw [dpa_ints h2]; rfl
theorem dpa_bools : ∀ {ns : List Bool} {vs : List V}, DpAll K F vs (ns.map .bool) → vs = ns.map V.bl
  | [], _, h => by cases h; rfl
  | n :: r, _, h => by
    cases h with
    | cons h1 h2 => cases h1; rw [dpa_bools h2]; rfl
theorem ints_dpa : ∀ ns : List Int, DpAll K F (ns.map V.int) (ns.map PyData.int)
  | [] => .nil
  | n :: r => .cons (.int n) (ints_dpa r)
end

/-! ### the operations on data -/
def mulOk (i j : Int) : Bool := decide (i.natAbs.log2 + j.natAbs.log2 < 1000000)
def vAdd : D → D → Cm D
  | .int i, .int j => .ret (.int (i + j))
  | .list a, .list b => if a.length + b.length ≤ 1000000 then .ret (.list (a ++ b)) else .bad
  | .tuple a, .tuple b => if a.length + b.length ≤ 1000000 then .ret (.tuple (a ++ b)) else .bad
  | _, _ => .bad
def vSub : D → D → Cm D
  | .int i, .int j => .ret (.int (i - j))
  | _, _ => .bad
def vMul : D → D → Cm D
  | .int i, .int j => if mulOk i j = true then .ret (.int (i * j)) else .bad
  | _, _ => .bad
def vDiv : D → D → Cm D
  | .int i, .int j => if 0 < j ∧ j.natAbs.log2 < 9000 then .ret (.int (i / j)) else .bad
  | _, _ => .bad
def vMod : D → D → Cm D
  | .int i, .int j => if 0 < j then .ret (.int (i % j)) else .bad
  | _, _ => .bad
def vPow : D → D → Cm D
  | .int i, .int j => if 0 ≤ j ∧ (Builtin.Int.intBits i : Int) * j ≤ 2 ^ 27 then .ret (.int (i ^ j.toNat)) else .bad
  | _, _ => .bad
def vNeg : D → Cm D
  | .int i => .ret (.int (-i))
  | _ => .bad
def vCmp (p : Int → Int → Bool) : D → D → Cm D
  | .int i, .int j => .ret (.bool (p i j))
  | _, _ => .bad
def vEq (x y : D) : Cm D := if SeqAt.shaped x = true ∧ SeqAt.shaped y = true ∧ flatD x = true ∧ flatD y = true then .ret (.bool (PyData.eqv x y)) else .bad
def vNe (x y : D) : Cm D := if SeqAt.shaped x = true ∧ SeqAt.shaped y = true ∧ flatD x = true ∧ flatD y = true then .ret (.bool (!PyData.eqv x y)) else .bad
def isN : D → Bool
  | .none => true
  | _ => false
def vIs : D → D → Cm D
  | x, .none => .ret (.bool (isN x))
  | _, _ => .bad
def vIsNot : D → D → Cm D
  | x, .none => .ret (.bool (!isN x))
  | _, _ => .bad
def vIn : D → D → Cm D
  | x, .list ds => if SeqAt.shaped x = true ∧ SeqAt.shaped (.list ds) = true ∧ flatD x = true then .ret (.bool (ds.any fun z => PyData.eqv z x)) else .bad
  | x, .tuple ds => if SeqAt.shaped x = true ∧ SeqAt.shaped (.tuple ds) = true ∧ flatD x = true then .ret (.bool (ds.any fun z => PyData.eqv z x)) else .bad
  | _, _ => .bad
def vNotIn : D → D → Cm D
  | x, .list ds => if SeqAt.shaped x = true ∧ SeqAt.shaped (.list ds) = true ∧ flatD x = true then .ret (.bool (!ds.any fun z => PyData.eqv z x)) else .bad
  | x, .tuple ds => if SeqAt.shaped x = true ∧ SeqAt.shaped (.tuple ds) = true ∧ flatD x = true then .ret (.bool (!ds.any fun z => PyData.eqv z x)) else .bad
  | _, _ => .bad
def vIx : D → D → Cm D
  | .list ds, .int i => match atI ds i with
    | some d => .ret d
    | none => .bad
  | .tuple ds, .int i => match atI ds i with
    | some d => .ret d
    | none => .bad
  | _, _ => .bad
section
variable {X : Cx}
theorem opd_int {f : Value → Value → Sem Value} {C : Int → Int → Prop} [∀ i j, Decidable (C i j)] {gv : Int → Int → V} {g : Int → Int → D} {G : D → D → Cm D} (ho : OpR X f (rI C gv)) (hv : ∀ i j K F, Dp K F (gv i j) (g i j))
    (hG : ∀ x y, (∃ i j, x = .int i ∧ y = .int j ∧ G x y = if C i j then .ret (g i j) else .bad) ∨ G x y = .bad) : OpR X f (rD2 X.K G) := by
  intro pins s σ H x y v u Q I rx ry h
  obtain ⟨dr, F, dx, dy, T, bx, b2, q⟩ := h
  refine ho pins s σ H x y v u Q I rx ry ?_
  rcases hG dx dy with ⟨i, j, rfl, rfl, e⟩ | e
  · rw [e] at q
    by_cases hc : C i j
    · rw [if_pos hc] at q
      exact ⟨i, j, bp_int bx, bp_int b2, hc, q _ F H .refl T (.dp (hv i j _ _))⟩
    · rw [if_neg hc] at q; exact q.elim
  · rw [e] at q; exact q.elim
theorem opd_int0 {f : Value → Value → Sem Value} {gv : Int → Int → V} {g : Int → Int → D} {G : D → D → Cm D} (ho : OpR X f (rI0 gv)) (hv : ∀ i j K F, Dp K F (gv i j) (g i j))
    (hG : ∀ x y, (∃ i j, x = .int i ∧ y = .int j ∧ G x y = .ret (g i j)) ∨ G x y = .bad) : OpR X f (rD2 X.K G) := by
  intro pins s σ H x y v u Q I rx ry h
  obtain ⟨dr, F, dx, dy, T, bx, b2, q⟩ := h
  refine ho pins s σ H x y v u Q I rx ry ?_
  rcases hG dx dy with ⟨i, j, rfl, rfl, e⟩ | e
  · rw [e] at q
    exact ⟨i, j, bp_int bx, bp_int b2, q _ F H .refl T (.dp (hv i j _ _))⟩
  · rw [e] at q; exact q.elim
theorem o_sub : OpR X (binaryOp .Sub) (rD2 X.K vSub) := opd_int0 op_sub (fun i j K F => .int (i - j)) fun x y => by
  cases x <;> cases y <;> first | exact .inr rfl | exact .inl ⟨_, _, rfl, rfl, rfl⟩
instance (i j : Int) : Decidable (CMulW i j) := inferInstanceAs (Decidable (_ < _))
instance (i j : Int) : Decidable (CDivW i j) := inferInstanceAs (Decidable (_ ∧ _))
theorem o_mul : OpR X (binaryOp .Mult) (rD2 X.K vMul) := opd_int (C := CMulW) (g := fun i j => .int (i * j)) op_mulW (fun i j K F => .int (i * j)) fun x y => by
  cases x <;> cases y <;> first
    | exact .inr rfl
    | (rename_i i j
       refine .inl ⟨_, _, rfl, rfl, ?_⟩
       by_cases hc : CMulW i j
       · rw [if_pos hc]; exact if_pos (decide_eq_true hc)
       · rw [if_neg hc]; exact if_neg (fun z => hc (of_decide_eq_true z)))
theorem o_div : OpR X (binaryOp .FloorDiv) (rD2 X.K vDiv) := opd_int (C := CDivW) (g := fun i j => .int (i / j)) op_fdivW (fun i j K F => .int (i / j)) fun x y => by
  cases x <;> cases y <;> first
    | exact .inr rfl
    | exact .inl ⟨_, _, rfl, rfl, rfl⟩
theorem o_mod : OpR X (binaryOp .Mod) (rD2 X.K vMod) := opd_int (C := fun _ j => 0 < j) (g := fun i j => .int (i % j)) op_mod (fun i j K F => .int (i % j)) fun x y => by
  cases x <;> cases y <;> first
    | exact .inr rfl
    | exact .inl ⟨_, _, rfl, rfl, rfl⟩
theorem op_powW : OpR X (binaryOp .Pow) (rI (fun i j => 0 ≤ j ∧ (Builtin.Int.intBits i : Int) * j ≤ 2 ^ 27) fun i j => .int (i ^ j.toNat)) := opI fun _ _ _ _ _ _ _ hc q => pow_int hc.1 hc.2 q
theorem o_pow : OpR X (binaryOp .Pow) (rD2 X.K vPow) := opd_int (C := fun i j => 0 ≤ j ∧ (Builtin.Int.intBits i : Int) * j ≤ 2 ^ 27) (g := fun i j => .int (i ^ j.toNat)) op_powW (fun i j K F => .int (i ^ j.toNat)) fun x y => by
  cases x <;> cases y <;> first
    | exact .inr rfl
    | exact .inl ⟨_, _, rfl, rfl, rfl⟩
theorem o_cmp {op : CmpOp} {p : Int → Int → Bool} (ho : OpR X (compareOp op) (rI0 fun i j => .bl (p i j))) : OpR X (compareOp op) (rD2 X.K (vCmp p)) := opd_int0 (g := fun i j => .bool (p i j)) ho (fun i j K F => .bl _) fun x y => by
  cases x <;> cases y <;> first | exact .inr rfl | exact .inl ⟨_, _, rfl, rfl, rfl⟩
def pLt (i j : Int) : Bool := decide (i < j)
def pLe (i j : Int) : Bool := decide (i ≤ j)
def pGt (i j : Int) : Bool := decide (j < i)
def pGe (i j : Int) : Bool := decide (j ≤ i)
theorem o_lt : OpR X (compareOp .Lt) (rD2 X.K (vCmp pLt)) := o_cmp op_lt
theorem o_le : OpR X (compareOp .LtE) (rD2 X.K (vCmp pLe)) := o_cmp op_le
theorem o_gt : OpR X (compareOp .Gt) (rD2 X.K (vCmp pGt)) := o_cmp op_gt
theorem o_ge : OpR X (compareOp .GtE) (rD2 X.K (vCmp pGe)) := o_cmp op_ge
theorem o_eq (hu : X.A.units + 64 < cLine) : OpR X (compareOp .Eq) (rD2 X.K vEq) := by
  intro pins s σ H x y v u Q I rx ry h
  obtain ⟨dr, F, dx, dy, T, bx, b2, q⟩ := h
  refine op_eqD hu pins s σ H x y v u Q I rx ry ?_
  unfold vEq at q
  split at q
  · rename_i hc
    exact ⟨dx, dy, bp_dp T bx hc.2.2.1, bp_dp T b2 hc.2.2.2, hc.1, hc.2.1, q _ F H .refl T (.dp (.bl _))⟩
  · exact q.elim
theorem o_ne (hu : X.A.units + 64 < cLine) : OpR X (compareOp .NotEq) (rD2 X.K vNe) := by
  intro pins s σ H x y v u Q I rx ry h
  obtain ⟨dr, F, dx, dy, T, bx, b2, q⟩ := h
  refine op_neD hu pins s σ H x y v u Q I rx ry ?_
  unfold vNe at q
  split at q
  · rename_i hc
    exact ⟨dx, dy, bp_dp T bx hc.2.2.1, bp_dp T b2 hc.2.2.2, hc.1, hc.2.1, q _ F H .refl T (.dp (.bl _))⟩
  · exact q.elim
theorem bp_none {K : PySem.W.Frag} {dr : Dr} {F H : Hp} {v : V} {d : D} (h : Bp K dr F H v d) : decide (v = .non) = isN d := by
  cases h with
  | r h =>
    cases h with
    | dp z => cases z <;> first | rfl | exact decide_eq_false (fun e => nomatch e)
    | drw => exact decide_eq_false (fun e => nomatch e)
  | @own p d _ _ o =>
    cases d with
    | none => exact o.elim
    | bool _ => exact o.elim
    | int _ => exact o.elim
    | str _ => exact o.elim
    | tuple _ => exact o.elim
    | list _ => exact decide_eq_false (fun e => nomatch e)
    | dict _ => exact decide_eq_false (fun e => nomatch e)
theorem bp_isnone {K : PySem.W.Frag} {dr : Dr} {F H : Hp} {v : V} (h : Bp K dr F H v .none) : v = .non := by
  cases h with
  | r h =>
    cases h with
    | dp z => cases z; rfl
  | own _ _ o => exact o.elim
theorem o_is : OpR X (compareOp .Is) (rD2 X.K vIs) := by
  intro pins s σ H x y v u Q I rx ry h
  obtain ⟨dr, F, dx, dy, T, bx, b2, q⟩ := h
  refine op_isN pins s σ H x y v u Q I rx ry ?_
  cases dy with
  | none =>
    refine ⟨bp_isnone b2, ?_⟩
    rw [bp_none bx]
    exact q _ F H .refl T (.dp (.bl _))
  | bool _ => exact q.elim
  | int _ => exact q.elim
  | str _ => exact q.elim
  | tuple _ => exact q.elim
  | list _ => exact q.elim
  | dict _ => exact q.elim
theorem o_isNot : OpR X (compareOp .IsNot) (rD2 X.K vIsNot) := by
  intro pins s σ H x y v u Q I rx ry h
  obtain ⟨dr, F, dx, dy, T, bx, b2, q⟩ := h
  refine op_notN pins s σ H x y v u Q I rx ry ?_
  cases dy with
  | none =>
    refine ⟨bp_isnone b2, ?_⟩
    rw [bp_none bx]
    exact q _ F H .refl T (.dp (.bl _))
  | bool _ => exact q.elim
  | int _ => exact q.elim
  | str _ => exact q.elim
  | tuple _ => exact q.elim
  | list _ => exact q.elim
  | dict _ => exact q.elim
theorem room_in_shapedT {A : Around} {ds : List PyData} {d : PyData} (h : SeqAt.shaped d = true) (hu : A.units + 65 < cLine) : A.units + 1 + min (PyData.depthAll ds) d.depth < cLine := by
  have h1 := SeqAt.depth_of_shaped h
  have h2 : min (PyData.depthAll ds) d.depth ≤ d.depth := Nat.min_le_right _ _
  omega
theorem o_in (hu : X.A.units + 65 < cLine) : OpR X (compareOp .In) (rD2 X.K vIn) := by
  intro pins s σ H x y v u Q I rx ry h
  obtain ⟨dr, F, dx, dy, T, bx, b2, q⟩ := h
  cases dy with
  | list ds =>
    have q' : (if SeqAt.shaped dx = true ∧ SeqAt.shaped (.list ds) = true ∧ flatD dx = true then Cm.ret (PyData.bool (ds.any fun z => PyData.eqv z dx)) else .bad).All _ := q
    split at q'
    · rename_i hc
      exact op_inD hu pins s σ H x y v u Q I rx ry ⟨dx, ds, bp_dp T bx hc.2.2, bp_dp T b2 rfl, hc.1, hc.2.1, q' _ F H .refl T (.dp (.bl _))⟩
    · exact q'.elim
  | tuple ds =>
    have q' : (if SeqAt.shaped dx = true ∧ SeqAt.shaped (.tuple ds) = true ∧ flatD dx = true then Cm.ret (PyData.bool (ds.any fun z => PyData.eqv z dx)) else .bad).All _ := q
    split at q'
    · rename_i hc
      obtain ⟨as, r1⟩ := Dp.reads I _ x v (bp_dp T bx hc.2.2) rx
      obtain ⟨bs, r2⟩ := Dp.reads I (.tuple ds) y u (bp_dp T b2 rfl) ry
      exact SeqAt.in_tuple_reads r2 r1 (SeqAt.canLay_of_shaped hc.2.1) (SeqAt.canLay_of_shaped hc.1) (room_in_shapedT hc.1 hu) ⟨.bl _, H, I, rfl, q' _ F H .refl T (.dp (.bl _))⟩
    · exact q'.elim
  | none => exact q.elim
  | bool _ => exact q.elim
  | int _ => exact q.elim
  | str _ => exact q.elim
  | dict _ => exact q.elim
theorem o_notIn (hu : X.A.units + 65 < cLine) : OpR X (compareOp .NotIn) (rD2 X.K vNotIn) := by
  intro pins s σ H x y v u Q I rx ry h
  obtain ⟨dr, F, dx, dy, T, bx, b2, q⟩ := h
  cases dy with
  | list ds =>
    have q' : (if SeqAt.shaped dx = true ∧ SeqAt.shaped (.list ds) = true ∧ flatD dx = true then Cm.ret (PyData.bool (!ds.any fun z => PyData.eqv z dx)) else .bad).All _ := q
    split at q'
    · rename_i hc
      exact op_notInD hu pins s σ H x y v u Q I rx ry ⟨dx, ds, bp_dp T bx hc.2.2, bp_dp T b2 rfl, hc.1, hc.2.1, q' _ F H .refl T (.dp (.bl _))⟩
    · exact q'.elim
  | tuple ds =>
    have q' : (if SeqAt.shaped dx = true ∧ SeqAt.shaped (.tuple ds) = true ∧ flatD dx = true then Cm.ret (PyData.bool (!ds.any fun z => PyData.eqv z dx)) else .bad).All _ := q
    split at q'
    · rename_i hc
      obtain ⟨as, r1⟩ := Dp.reads I _ x v (bp_dp T bx hc.2.2) rx
      obtain ⟨bs, r2⟩ := Dp.reads I (.tuple ds) y u (bp_dp T b2 rfl) ry
      exact SeqAt.notIn_tuple_reads r2 r1 (SeqAt.canLay_of_shaped hc.2.1) (SeqAt.canLay_of_shaped hc.1) (room_in_shapedT hc.1 hu) ⟨.bl _, H, I, rfl, q' _ F H .refl T (.dp (.bl _))⟩
    · exact q'.elim
  | none => exact q.elim
  | bool _ => exact q.elim
  | int _ => exact q.elim
  | str _ => exact q.elim
  | dict _ => exact q.elim
theorem u_neg : UnR X (unaryOp .USub) (rD1 X.K vNeg) := by
  intro pins s σ H x v Q I rx h
  obtain ⟨dr, F, dx, T, bx, q⟩ := h
  refine un_neg pins s σ H x v Q I rx ?_
  cases dx with
  | int i => exact ⟨i, bp_int bx, q _ F H .refl T (.dp (.int _))⟩
  | none => exact q.elim
  | bool _ => exact q.elim
  | str _ => exact q.elim
  | tuple _ => exact q.elim
  | list _ => exact q.elim
  | dict _ => exact q.elim
/-- list + list, whatever they are -/
theorem cat_lists {pins : List (Addr × Obj)} {s : Shared} {σ : L2.St} {H : Hp} {l b : Addr} {xs zs : List V} {Q : VK} (I : Inv X pins σ H s) (ha : SqL X.K H l xs) (hb : SqL X.K H b zs) (hz : xs.length + zs.length ≤ sizeLine) (q : ∀ p, H p = none → Q (.ref p) (upd H p (.lst (xs ++ zs)))) :
    wpAny (model X.prog X.w) X.A (binaryOp .Add (.ref l) (.ref b)) (EP X pins σ Q) X.xe s := by
  obtain ⟨its, r, ⟨o, n, e, c1, d1, t1⟩, z1⟩ := I.list ha
  obtain ⟨its2, r2, ⟨o2, n2, e2, c2, d2, t2⟩, z2⟩ := I.list hb
  have hl := r.length
  have hl2 := r2.length
  obtain ⟨cl, dd, da, sl⟩ := o
  obtain ⟨cl2, dd2, da2, sl2⟩ := o2
  simp only at c1 d1 t1 c2 d2 t2
  subst c1 d1 t1 c2 d2 t2
  have hz3 : its.toArray.size + its2.toArray.size ≤ sizeLine := by rw [List.size_toArray, List.size_toArray]; omega
  refine PySem.concat_meets ⟨_, e, rfl⟩ ⟨_, e2, rfl⟩ noFill_list_add seq_list_add PySem.F.slot_list_add PySem.F.entry_list_add (PySem.F.args_list_add_2 _ _) (list_addW l b its.toArray its2.toArray n n2 none none sl sl2 hz3) ⟨e, e2, ?_⟩
  have ea : its.toArray ++ its2.toArray = (its ++ its2).toArray := by simp
  rw [ea]
  exact ⟨.ref _, _, I.lnew (t' := s.toks) (r.append r2) (by rw [List.length_append]; omega), rfl, q _ I.fresh⟩
/-- tuple + tuple -/
theorem cat_tups {pins : List (Addr × Obj)} {s : Shared} {σ : L2.St} {H : Hp} {l b : Addr} {xs zs : List V} {Q : VK} (I : Inv X pins σ H s) (ha : SqT X.K H l xs) (hb : SqT X.K H b zs) (hz : xs.length + zs.length ≤ sizeLine)
    (q0 : xs = [] → Q (.ref b) H) (q1 : zs = [] → Q (.ref l) H) (q : ∀ p, H p = none → Q (.ref p) (upd H p (.tup (xs ++ zs)))) :
    wpAny (model X.prog X.w) X.A (binaryOp .Add (.ref l) (.ref b)) (EP X pins σ Q) X.xe s := by
  obtain ⟨its, r1, p1, _⟩ := I.tuple ha
  obtain ⟨its2, r2, p2, _⟩ := I.tuple hb
  by_cases hx : its = []
  · obtain ⟨⟨cls, dd, data, sl⟩, ho, hc, n, hd⟩ := id p1
    obtain ⟨⟨cls2, dd2, data2, sl2⟩, ho2, hc2, n2, hd2⟩ := id p2
    simp only at hc hd hc2 hd2
    subst hc hd hc2 hd2
    refine PySem.concat_meets ⟨_, ho, rfl⟩ ⟨_, ho2, rfl⟩ noFill_tuple_add seq_tuple_add PySem.F.slot_tuple_add PySem.F.entry_tuple_add (PySem.F.args_tuple_add_2 _ _)
      (tuple_addW0 l b its.toArray its2.toArray n n2 dd dd2 sl sl2 (by rw [hx]; rfl)) ⟨ho, ho2, ?_⟩
    exact ⟨.ref b, H, I.tok _, rfl, q0 (r1.nil_iff.mp hx)⟩
  · refine HT.cat_tup p1 p2 hx (fun z => ⟨.ref l, H, I, rfl, q1 (r2.nil_iff.mp z)⟩) (fun z => ?_) (by rw [← r1.length, ← r2.length]; exact hz)
    refine ⟨.ref s.heap.objs.size, _, I.laid (t' := s.toks) (o := .tup (xs ++ zs)) (fun b ob q => Heap.get?_push_of_some _ q) (Nat.le_refl _) ?_, rfl, q _ (I.hok.fresh (Nat.le_refl _))⟩
    exact ⟨by rw [List.length_append]; exact hz, _, r1.append r2, IsTup.new _ _⟩
theorem o_add : OpR X (binaryOp .Add) (rD2 X.K vAdd) := by
  intro pins s σ H x y v u Q I rx ry h
  obtain ⟨dr, F, dx, dy, T, bx, b2, q⟩ := h
  cases dx with
  | int i =>
    cases dy with
    | int j => exact op_add pins s σ H x y v u Q I rx ry ⟨i, j, bp_int bx, bp_int b2, q _ F H .refl T (.dp (.int _))⟩
    | none => exact q.elim
    | bool _ => exact q.elim
    | str _ => exact q.elim
    | tuple _ => exact q.elim
    | list _ => exact q.elim
    | dict _ => exact q.elim
  | list a =>
    cases dy with
    | list b =>
      have q' : (if a.length + b.length ≤ 1000000 then Cm.ret (PyData.list (a ++ b)) else .bad).All _ := q
      split at q'
      · rename_i hl
        obtain ⟨p1, vs, rfl, h1, h2⟩ := bp_list T bx
        obtain ⟨p2, ws, rfl, h3, h4⟩ := bp_list T b2
        cases rx
        cases ry
        refine cat_lists I h1 h3 (by rw [dpa_len h2, dpa_len h4]; exact mil hl) fun p hp => ?_
        obtain ⟨S2, T2⟩ := lay T hp (.lst (vs ++ ws))
        exact q' _ _ _ S2 T2 (.dp (.lst (.inl (.inl upd_same)) (dpa_up S2.up _ _ (dpa_app h2 h4))))
      · exact q'.elim
    | none => exact q.elim
    | bool _ => exact q.elim
    | str _ => exact q.elim
    | tuple _ => exact q.elim
    | int _ => exact q.elim
    | dict _ => exact q.elim
  | tuple a =>
    cases dy with
    | tuple b =>
      have q' : (if a.length + b.length ≤ 1000000 then Cm.ret (PyData.tuple (a ++ b)) else .bad).All _ := q
      split at q'
      · rename_i hl
        obtain ⟨p1, vs, rfl, h1, h2⟩ := bp_tup bx
        obtain ⟨p2, ws, rfl, h3, h4⟩ := bp_tup b2
        have hk1 := sqt_up T.sub h1
        have hk2 := sqt_up T.sub h3
        cases rx
        cases ry
        refine cat_tups I hk1 hk2 (by rw [dpa_len h2, dpa_len h4]; exact mil hl) (fun e => ?_) (fun e => ?_) fun p hp => ?_
        · subst e
          cases h2
          exact q' _ F H .refl T (.dp (.tup h3 h4))
        · subst e
          cases h4
          rw [List.append_nil] at q'
          exact q' _ F H .refl T (.dp (.tup h1 h2))
        · obtain ⟨S2, T2⟩ := lay T hp (.tup (vs ++ ws))
          exact q' _ _ _ S2 T2 (.dp (.tup (.inl (.inl upd_same)) (dpa_up S2.up _ _ (dpa_app h2 h4))))
      · exact q'.elim
    | none => exact q.elim
    | bool _ => exact q.elim
    | str _ => exact q.elim
    | list _ => exact q.elim
    | int _ => exact q.elim
    | dict _ => exact q.elim
  | none => exact q.elim
  | bool _ => exact q.elim
  | str _ => exact q.elim
  | dict _ => exact q.elim
theorem x_ix : IxR X (rD2 X.K vIx) := by
  intro value slice pins s σ H x y v u Q I rx ry h hsub
  obtain ⟨dr, F, dx, dy, T, bx, b2, q⟩ := h
  cases dx with
  | list ds =>
    cases dy with
    | int i =>
      have q' : (match atI ds i with | some d => Cm.ret d | none => .bad).All _ := q
      obtain ⟨p, vs, rfl, h1, h2⟩ := bp_list T bx
      split at q'
      · rename_i d hd
        obtain ⟨j, j1, j2, j3, j4, j5⟩ := atI_get hd
        obtain ⟨w, hw, rvw⟩ := dpa_get h2 j2
        refine ix_list value slice pins s σ H _ y v u Q I rx ry ⟨p, vs, i, w, rfl, bp_int b2, h1, ?_, q' _ F H .refl T (.dp rvw)⟩ hsub
        unfold atI at hd ⊢
        rw [dpa_len h2]
        cases e : ixN ds.length i with
        | none => rw [e] at hd; cases hd
        | some j' =>
          rw [e] at hd
          obtain ⟨z1, _, _, _⟩ := ixN_seq e
          rw [j1] at z1
          cases z1
          exact hw
      · exact q'.elim
    | none => exact q.elim
    | bool _ => exact q.elim
    | str _ => exact q.elim
    | list _ => exact q.elim
    | tuple _ => exact q.elim
    | dict _ => exact q.elim
  | tuple ds =>
    cases dy with
    | int i =>
      have q' : (match atI ds i with | some d => Cm.ret d | none => .bad).All _ := q
      obtain ⟨p, vs, rfl, h1, h2⟩ := bp_tup bx
      split at q'
      · rename_i d hd
        obtain ⟨j, j1, j2, j3, j4, j5⟩ := atI_get hd
        obtain ⟨w, hw, rvw⟩ := dpa_get h2 j2
        refine ix_tup value slice pins s σ H _ y v u Q I rx ry ⟨p, vs, i, w, rfl, bp_int b2, sqt_up T.sub h1, ?_, q' _ F H .refl T (.dp rvw)⟩ hsub
        unfold atI at hd ⊢
        rw [dpa_len h2]
        cases e : ixN ds.length i with
        | none => rw [e] at hd; cases hd
        | some j' =>
          rw [e] at hd
          obtain ⟨z1, _, _, _⟩ := ixN_seq e
          rw [j1] at z1
          cases z1
          exact hw
      · exact q'.elim
    | none => exact q.elim
    | bool _ => exact q.elim
    | str _ => exact q.elim
    | list _ => exact q.elim
    | tuple _ => exact q.elim
    | dict _ => exact q.elim
  | none => exact q.elim
  | bool _ => exact q.elim
  | int _ => exact q.elim
  | str _ => exact q.elim
  | dict _ => exact q.elim

/-! ### calls of built-ins -/
def cLen : List D → Cm D
  | [.list ds] => .ret (.int ds.length)
  | [.tuple ds] => .ret (.int ds.length)
  | _ => .bad
def cAbs : List D → Cm D
  | [.int i] => .ret (.int (if i < 0 then -i else i))
  | _ => .bad
def cInt : List D → Cm D
  | [.int i] => .ret (.int i)
  | _ => .bad
def cMin2 : List D → Cm D
  | [.int i, .int j] => .ret (.int (if j < i then j else i))
  | _ => .bad
def cMax2 : List D → Cm D
  | [.int i, .int j] => .ret (.int (if j > i then j else i))
  | _ => .bad
def cGcd : List D → Cm D
  | [.int i, .int j] => .ret (.int ((Nat.gcd i.natAbs j.natAbs : Nat) : Int))
  | _ => .bad
def cTuple : List D → Cm D
  | [.list ds] => .ret (.tuple ds)
  | [.tuple ds] => .ret (.tuple ds)
  | _ => .bad
def cList : List D → Cm D
  | [.list ds] => .ret (.list ds)
  | [.tuple ds] => .ret (.list ds)
  | _ => .bad
def cSum : List D → Cm D
  | [.list ds] => match asInts ds with
    | some ns => .ret (.int ns.sum)
    | none => .bad
  | _ => .bad
def cAll : List D → Cm D
  | [.list ds] => match asBools ds with
    | some bs => .ret (.bool (bs.all id))
    | none => .bad
  | _ => .bad
def cAny : List D → Cm D
  | [.list ds] => match asBools ds with
    | some bs => .ret (.bool (bs.any id))
    | none => .bad
  | _ => .bad
theorem k_len : CallR X (.builtin "len") (rDs X.K cLen) := by
  intro pins s σ H xs us Q I rx h
  obtain ⟨dr, F, ds, T, bx, q⟩ := h
  refine call_len_seq pins s σ H xs us Q I rx ?_
  unfold cLen at q
  split at q
  · cases bx with
    | cons b1 bx =>
      cases bx
      obtain ⟨p, vs, rfl, h1, h2⟩ := bp_list T b1
      refine ⟨p, vs, rfl, .inl h1, ?_⟩
      rw [dpa_len h2]
      exact q _ F H .refl T (.dp (.int _))
  · cases bx with
    | cons b1 bx =>
      cases bx
      obtain ⟨p, vs, rfl, h1, h2⟩ := bp_tup b1
      refine ⟨p, vs, rfl, .inr (sqt_up T.sub h1), ?_⟩
      rw [dpa_len h2]
      exact q _ F H .refl T (.dp (.int _))
  · exact q.elim
theorem k_abs : CallR X (.builtin "abs") (rDs X.K cAbs) := by
  intro pins s σ H xs us Q I rx h
  obtain ⟨dr, F, ds, T, bx, q⟩ := h
  refine call_abs pins s σ H xs us Q I rx ?_
  unfold cAbs at q
  split at q
  · cases bx with
    | cons b1 bx =>
      cases bx
      cases bp_int b1
      exact ⟨_, rfl, q _ F H .refl T (.dp (.int _))⟩
  · exact q.elim
theorem k_int : CallR X (.type "int") (rDs X.K cInt) := by
  intro pins s σ H xs us Q I rx h
  obtain ⟨dr, F, ds, T, bx, q⟩ := h
  refine call_int1 pins s σ H xs us Q I rx ?_
  unfold cInt at q
  split at q
  · cases bx with
    | cons b1 bx =>
      cases bx
      cases bp_int b1
      exact .inl ⟨_, rfl, q _ F H .refl T (.dp (.int _))⟩
  · exact q.elim
theorem k_min2 (hc : X.calm = true) : CallR X (.builtin "min") (rDs X.K cMin2) := by
  intro pins s σ H xs us Q I rx h
  obtain ⟨dr, F, ds, T, bx, q⟩ := h
  refine call_min2 hc pins s σ H xs us Q I rx ?_
  unfold cMin2 at q
  split at q
  · cases bx with
    | cons b1 bx =>
      cases bx with
      | cons b2 bx =>
        cases bx
        cases bp_int b1
        cases bp_int b2
        exact ⟨_, _, rfl, q _ F H .refl T (.dp (.int _))⟩
  · exact q.elim
theorem k_max2 (hc : X.calm = true) : CallR X (.builtin "max") (rDs X.K cMax2) := by
  intro pins s σ H xs us Q I rx h
  obtain ⟨dr, F, ds, T, bx, q⟩ := h
  refine call_max2 hc pins s σ H xs us Q I rx ?_
  unfold cMax2 at q
  split at q
  · cases bx with
    | cons b1 bx =>
      cases bx with
      | cons b2 bx =>
        cases bx
        cases bp_int b1
        cases bp_int b2
        exact ⟨_, _, rfl, q _ F H .refl T (.dp (.int _))⟩
  · exact q.elim
theorem k_gcd : CallR X (.builtin "math.gcd") (rDs X.K cGcd) := by
  intro pins s σ H xs us Q I rx h
  obtain ⟨dr, F, ds, T, bx, q⟩ := h
  refine cr_gcd pins s σ H xs us Q I rx ?_
  unfold cGcd at q
  split at q
  · cases bx with
    | cons b1 bx =>
      cases bx with
      | cons b2 bx =>
        cases bx
        cases bp_int b1
        cases bp_int b2
        exact ⟨_, _, rfl, q _ F H .refl T (.dp (.int _))⟩
  · exact q.elim
theorem k_tuple : CallR X (.type "tuple") (rDs X.K cTuple) := by
  intro pins s σ H xs us Q I rx h
  obtain ⟨dr, F, ds, T, bx, q⟩ := h
  refine call_tuple_of pins s σ H xs us Q I rx ?_
  unfold cTuple at q
  split at q
  · cases bx with
    | cons b1 bx =>
      cases bx
      obtain ⟨p, vs, rfl, h1, h2⟩ := bp_list T b1
      refine ⟨p, vs, rfl, .inl ⟨h1, fun l hl => ?_⟩⟩
      obtain ⟨S2, T2⟩ := lay T hl (.tup vs)
      exact q _ _ _ S2 T2 (.dp (.tup (.inl (.inl upd_same)) (dpa_up S2.up _ _ h2)))
  · cases bx with
    | cons b1 bx =>
      cases bx
      obtain ⟨p, vs, rfl, h1, h2⟩ := bp_tup b1
      exact ⟨p, vs, rfl, .inr ⟨sqt_up T.sub h1, q _ F H .refl T (.dp (.tup h1 h2))⟩⟩
  · exact q.elim
theorem k_list : CallR X (.type "list") (rDs X.K cList) := by
  intro pins s σ H xs us Q I rx h
  obtain ⟨dr, F, ds, T, bx, q⟩ := h
  refine call_list_of pins s σ H xs us Q I rx ?_
  unfold cList at q
  split at q
  · cases bx with
    | cons b1 bx =>
      cases bx
      obtain ⟨p, vs, rfl, h1, h2⟩ := bp_list T b1
      refine ⟨p, vs, rfl, .inl h1, fun l hl => ?_⟩
      obtain ⟨S2, T2⟩ := lay T hl (.lst vs)
      exact q _ _ _ S2 T2 (.dp (.lst (.inl (.inl upd_same)) (dpa_up S2.up _ _ h2)))
  · cases bx with
    | cons b1 bx =>
      cases bx
      obtain ⟨p, vs, rfl, h1, h2⟩ := bp_tup b1
      refine ⟨p, vs, rfl, .inr (sqt_up T.sub h1), fun l hl => ?_⟩
      obtain ⟨S2, T2⟩ := lay T hl (.lst vs)
      exact q _ _ _ S2 T2 (.dp (.lst (.inl (.inl upd_same)) (dpa_up S2.up _ _ h2)))
  · exact q.elim
theorem k_sum (hc : X.calm = true) : CallR X (.builtin "sum") (rDs X.K cSum) := by
  intro pins s σ H xs us Q I rx h
  obtain ⟨dr, F, ds, T, bx, q⟩ := h
  refine cr_sum hc pins s σ H xs us Q I rx ?_
  unfold cSum at q
  split at q
  · cases bx with
    | cons b1 bx =>
      cases bx
      split at q
      · rename_i ns e
        have e := asInts_eq e
        subst e
        obtain ⟨p, vs, rfl, h1, h2⟩ := bp_list T b1
        cases dpa_ints h2
        exact ⟨p, ns, rfl, h1, q _ F H .refl T (.dp (.int _))⟩
      · exact q.elim
  · exact q.elim
theorem k_all (hc : X.calm = true) : CallR X (.builtin "all") (rDs X.K cAll) := by
  intro pins s σ H xs us Q I rx h
  obtain ⟨dr, F, ds, T, bx, q⟩ := h
  refine cr_all hc pins s σ H xs us Q I rx ?_
  unfold cAll at q
  split at q
  · cases bx with
    | cons b1 bx =>
      cases bx
      split at q
      · rename_i ns e
        have e := asBools_eq e
        subst e
        obtain ⟨p, vs, rfl, h1, h2⟩ := bp_list T b1
        cases dpa_bools h2
        exact ⟨p, ns, rfl, h1, q _ F H .refl T (.dp (.bl _))⟩
      · exact q.elim
  · exact q.elim
theorem k_any (hc : X.calm = true) : CallR X (.builtin "any") (rDs X.K cAny) := by
  intro pins s σ H xs us Q I rx h
  obtain ⟨dr, F, ds, T, bx, q⟩ := h
  refine cr_any hc pins s σ H xs us Q I rx ?_
  unfold cAny at q
  split at q
  · cases bx with
    | cons b1 bx =>
      cases bx
      split at q
      · rename_i ns e
        have e := asBools_eq e
        subst e
        obtain ⟨p, vs, rfl, h1, h2⟩ := bp_list T b1
        cases dpa_bools h2
        exact ⟨p, ns, rfl, h1, q _ F H .refl T (.dp (.bl _))⟩
      · exact q.elim
  · exact q.elim
end
end Fs

set_option Elab.async false
set_option linter.all false
set_option maxRecDepth 100000
set_option maxHeartbeats 2000000
set_option autoImplicit false
namespace Fs
open PySem PySem.Spec PyProof.Rows L2
/-! ### isinstance(x, T), T a built-in type -/
def tyD : D → Option String
  | .none => some "NoneType"
  | .bool _ => some "bool"
  | .int _ => some "int"
  | .str _ => some "str"
  | .list _ => some "list"
  | .tuple _ => some "tuple"
  | .dict _ => none
def vIsi (T : String) (d : D) : Cm D := match tyD d with
  | some t => match kitB t T with
    | some b => .ret (.bool b)
    | none => .bad
  | none => .bad
def dIsi (T : String) (f : DE) : DE := fun env => (f env).bind (vIsi T)
section
variable {X : Cx} {e a b c : Expr} {es : List Expr} {f f1 f2 f3 : DE} {fs : DEs} {t u : DT} {pos : Pos}
theorem ty_l {K : PySem.W.Frag} {H : Hp} {p : Addr} {xs : List V} (h : SqL K H p xs) : TyX K H (.ref p) (.type "list") := by
  rcases h with (h | ⟨o, h⟩) | ⟨o, its, n, h1, h2, _⟩
  · exact .base (.lst h)
  · exact .base (.frz h)
  · exact .kList h1 h2
theorem ty_t {K : PySem.W.Frag} {H : Hp} {p : Addr} {xs : List V} (h : SqT K H p xs) : TyX K H (.ref p) (.type "tuple") := by
  rcases h with (h | ⟨o, h⟩) | ⟨o, its, n, h1, h2, _⟩
  · exact .base (.tup h)
  · exact .fTuple h
  · exact .kTuple h1 h2
theorem bp_ty {K : PySem.W.Frag} {dr : Dr} {F H : Hp} {v : V} {d : D} {t : String} (s : Stt dr F H) (h : Bp K dr F H v d) (e : tyD d = some t) : TyX K H v (.type t) := by
  cases d with
  | none => cases e; cases bp_isnone h; exact .base .non
  | bool b => cases e; cases bp_bl h; exact .base (.bl b)
  | int b => cases e; cases bp_int h; exact .base (.int b)
  | str x =>
    cases e
    cases h with
    | r h =>
      cases h with
      | dp z => cases z; exact .base (.str x)
    | own _ _ o => exact o.elim
  | list ds => cases e; obtain ⟨p, vs, rfl, h1, _⟩ := bp_list s h; exact ty_l h1
  | tuple ds => cases e; obtain ⟨p, vs, rfl, h1, _⟩ := bp_tup h; exact ty_t (sqt_up s.sub h1)
  | dict _ => cases e
theorem e_isi {T : String} {T' : Str} {p p2 : Pos} (hg : Gl X "isinstance") (hm : X.mg "isinstance" = none) (hv : bootBuiltins "isinstance" = some (.builtin "isinstance")) (hgT : Gl X T') (hmT : X.mg T' = none) (hvT : bootBuiltins T' = some (.type T))
    (he : PE X e (tB X.K f)) (hn : T' ≠ "__name__" := by decide) (hd : (T' == ("__debug__" : Str)) = false := by decide)
    (hs1 : starEach (e :: [.Name T' p2]) X.env = (false, eval e X.env) :: starEach [.Name T' p2] X.env := by rfl) (hs2 : starEach (.Name T' p2 :: []) X.env = (false, eval (.Name T' p2) X.env) :: starEach [] X.env := by rfl) (hpl : (backTo pos (starEach [.Name T' p2] X.env)).any (·.1) = false := by rfl) :
    PE X (.Call (.Name "isinstance" p) [e, .Name T' p2] [] pos) (tE X.K (dIsi T f)) :=
  pe_imp (pe_callB call_isi hg hm hv (pa_cons he (pa_cons (pe_bltn (v := .ty T) hgT hmT hvT rfl hn hd) pa_nil hs2) hs1) (by decide) (by decide) hs1 hpl) fun σ H Q ⟨dr, B, F, env, s, r, q⟩ => ⟨dr, B, F, env, s, r, Cm.All.mono (by
    intro d k v F1 H1 S1 T1 b1
    unfold vIsi at k
    split at k
    · rename_i t ht
      split at k
      · rename_i b hb
        exact ⟨v, .ty T, .type t, .type T, b, rfl, .ty T, bp_ty T1 b1 ht, kit_ty hb, k _ F1 H1 S1 T1 (.dp (.bl _))⟩
      · exact k.elim
    · exact k.elim) (Cm.all_bind.mp q)⟩
/-- f(..), f a module's name for a built-in function -/
theorem e_callBf {id : String} {x : Str} {p : Pos} {g : List D → Cm D} (hc : CallR X (.builtin id) (rDs X.K g)) (hg : Gl X x) (hm : X.mg x = some (.builtin id)) (ha : PA X (e :: es) (tAb X.K fs)) (hdb : (x == ("__debug__" : Str)) = false := by decide)
    (he : starEach (e :: es) X.env = (false, eval e X.env) :: starEach es X.env := by rfl) (hpl : (backTo pos (starEach es X.env)).any (·.1) = false := by rfl) : PE X (.Call (.Name x p) (e :: es) [] pos) (tE X.K (dCall g fs)) :=
  pe_imp (pe_callBfun hc hg hm ha hdb he hpl) fun _ _ _ h => cb_red h
/-! ### a < b < c -/
def dChain (g g' : D → D → Cm D) (f1 f2 f3 : DE) : DE := fun env => (f1 env).bind fun x => (f2 env).bind fun y => (g x y).bind fun z => match z with
  | .bool b => if b = true then (f3 env).bind fun w => g' y w else .ret (.bool false)
  | _ => .bad
theorem chain_red {K : PySem.W.Frag} {g g' : D → D → Cm D} {σ : L2.St} {H : Hp} {Q : VK} (h : tE K (dChain g g' f1 f2 f3) σ H Q) : tChain (rD2 K g) (rD2 K g') (tB K f1) (tB K f2) (tB K f3) σ H Q := by
  obtain ⟨dr, B, F, env, s, r, q⟩ := h
  refine ⟨dr, B, F, env, s, r, Cm.All.mono (fun x k v F1 H1 S1 T1 b1 => ?_) (Cm.all_bind.mp q)⟩
  refine ⟨dr, B, F1, env, T1, r.step S1, Cm.All.mono (fun y k2 u F2 H2 S2 T2 b2 => ?_) (Cm.all_bind.mp k)⟩
  refine ⟨dr, F2, x, y, T2, b1.step S2, b2, Cm.All.mono (fun d k3 w F3 H3 S3 T3 rw3 => ?_) (Cm.all_bind.mp k2)⟩
  cases d with
  | bool b =>
    refine ⟨b, bl_of rw3, ?_⟩
    cases b with
    | true =>
      refine ⟨dr, B, F3, env, T3, ((r.step S1).step S2).step S3, Cm.All.mono (fun z k4 w4 F4 H4 S4 T4 b4 => ?_) (Cm.all_bind.mp k3)⟩
      exact ⟨dr, F4, y, z, T4, (b2.step S3).step S4, b4, Cm.All.mono (fun d5 k5 w5 F5 H5 S5 T5 => k5 w5 F5 H5 (S1.trans (S2.trans (S3.trans (S4.trans S5 T5) T5) T5) T5) T5) k4⟩
    | false => exact k3 _ F3 H3 (S1.trans (S2.trans S3 T3) T3) T3 (.dp (.bl _))
  | none => exact k3.elim
  | int _ => exact k3.elim
  | str _ => exact k3.elim
  | list _ => exact k3.elim
  | tuple _ => exact k3.elim
  | dict _ => exact k3.elim
theorem e_chain {op op' : CmpOp} {g g' : D → D → Cm D} (ho : OpR X (compareOp op) (rD2 X.K g)) (ho' : OpR X (compareOp op') (rD2 X.K g')) (ha : PE X a (tB X.K f1)) (hb : PE X b (tB X.K f2)) (hc : PE X c (tB X.K f3))
    (hm : lastMarks [op, op'] [b, c] = false := by with_unfolding_all rfl) : PE X (.Compare a [op, op'] [b, c] pos) (tE X.K (dChain g g' f1 f2 f3)) :=
  pe_imp (pe_chain ho ho' ha hb hc hm) fun _ _ _ h => chain_red h
theorem t_chain {op op' : CmpOp} {g g' : D → D → Cm D} (ho : OpR X (compareOp op) (rD2 X.K g)) (ho' : OpR X (compareOp op') (rD2 X.K g')) (ha : PE X a (tB X.K f1)) (hb : PE X b (tB X.K f2)) (hc : PE X c (tB X.K f3))
    (hm : lastMarks [op, op'] [b, c] = false := by with_unfolding_all rfl) : PT X (.Compare a [op, op'] [b, c] pos) (tT X.K (dTru (dChain g g' f1 f2 f3))) :=
  pt_imp (pt_chain ho ho' ha hb hc hm) fun _ _ _ h => chain_red (tru_red h)
def dPar3 (i j l : Nat) (f1 f2 f3 : DE) : DS := fun env => (f1 env).bind fun d1 => (f2 env).bind fun d2 => (f3 env).bind fun d3 => .ret (.nx (((env.set i (.val d1)).set j (.val d2)).set l (.val d3)))
end
end Fs

set_option Elab.async false
set_option linter.all false
set_option maxRecDepth 100000
set_option maxHeartbeats 2000000
set_option autoImplicit false
namespace Fs
open PySem PySem.Spec PyProof.Rows L2 RZ

/-! ### zip of two, range with a step -/
def zip2 : List D → List D → List D
  | x :: xs, y :: ys => .tuple [x, y] :: zip2 xs ys
  | _, _ => []
theorem zip2_get : ∀ {xs ys : List D} {i : Nat} {d : D}, (zip2 xs ys)[i]? = some d → ∃ x y, xs[i]? = some x ∧ ys[i]? = some y ∧ d = .tuple [x, y]
  | [], _, _, _, h => by simp [zip2] at h
  | _ :: _, [], _, _, h => by simp [zip2] at h
  | x :: xs, y :: ys, 0, d, h => by simp [zip2] at h; exact ⟨x, y, rfl, rfl, h.symm⟩
  | x :: xs, y :: ys, i + 1, d, h => by
    obtain ⟨a, b, h1, h2, h3⟩ := zip2_get (xs := xs) (ys := ys) (i := i) (d := d) (by simpa [zip2] using h)
    exact ⟨a, b, by simpa using h1, by simpa using h2, h3⟩
theorem zip2_len : ∀ (xs ys : List D), (zip2 xs ys).length = min xs.length ys.length
  | [], _ => by simp [zip2]
  | _ :: _, [] => by simp [zip2]
  | _ :: xs, _ :: ys => by simp [zip2, zip2_len xs ys] <;> omega
theorem itok_zipT {K : PySem.W.Frag} {dr : Dr} {F : Hp} {a b : Addr} {xs ys : List V} {ds es : List D} (h : SqT K F a xs) (ha : DpAll K F xs ds) (h2 : SqT K F b ys) (hb : DpAll K F ys es) : ItOk K dr (ItzT K a b) (zip2 ds es) F where
  stop := fun F1 H1 i up s hi => ⟨xs, ys, sqt_up s.sub (sqt_up up h), sqt_up s.sub (sqt_up up h2), by
    rw [zip2_len] at hi
    rw [dpa_len ha, dpa_len hb]
    omega⟩
  go := fun F1 H1 i d up s hd => by
    obtain ⟨x, y, e1, e2, rfl⟩ := zip2_get hd
    obtain ⟨v, hv, dv⟩ := dpa_get ha e1
    obtain ⟨w, hw, dw⟩ := dpa_get hb e2
    have q1 := sqt_up s.sub (sqt_up up h)
    have q2 := sqt_up s.sub (sqt_up up h2)
    refine ⟨⟨xs, ys, v, w, q1, q2, hv, hw⟩, fun z H2 yl => ?_⟩
    obtain ⟨T, x1, y1, rfl, nT, rfl, f1, f2⟩ := yl
    have z1 := f1 xs q1
    have z2 := f2 ys q2
    rw [hv] at z1; cases z1
    rw [hw] at z2; cases z2
    obtain ⟨S2, T2⟩ := lay s nT (.tup [v, w])
    exact ⟨_, S2, T2, .dp (.tup (.inl (.inl upd_same)) (.cons (dp_up S2.up _ _ (dp_up up _ _ dv)) (.cons (dp_up S2.up _ _ (dp_up up _ _ dw)) .nil)))⟩
theorem itok_zipL {K : PySem.W.Frag} {dr : Dr} {F : Hp} {a b : Addr} {xs ys : List V} {ds es : List D} (h : SqL K F a xs) (ha : DpAll K F xs ds) (h2 : SqL K F b ys) (hb : DpAll K F ys es) : ItOk K dr (Itz K a b) (zip2 ds es) F where
  stop := fun F1 H1 i up s hi => ⟨xs, ys, sql_up s.sub (sql_up up h), sql_up s.sub (sql_up up h2), by
    rw [zip2_len] at hi
    rw [dpa_len ha, dpa_len hb]
    omega⟩
  go := fun F1 H1 i d up s hd => by
    obtain ⟨x, y, e1, e2, rfl⟩ := zip2_get hd
    obtain ⟨v, hv, dv⟩ := dpa_get ha e1
    obtain ⟨w, hw, dw⟩ := dpa_get hb e2
    have q1 := sql_up s.sub (sql_up up h)
    have q2 := sql_up s.sub (sql_up up h2)
    refine ⟨⟨xs, ys, v, w, q1, q2, hv, hw⟩, fun z H2 yl => ?_⟩
    obtain ⟨T, x1, y1, rfl, nT, rfl, f1, f2⟩ := yl
    have z1 := f1 xs q1
    have z2 := f2 ys q2
    rw [hv] at z1; cases z1
    rw [hw] at z2; cases z2
    obtain ⟨S2, T2⟩ := lay s nT (.tup [v, w])
    exact ⟨_, S2, T2, .dp (.tup (.inl (.inl upd_same)) (.cons (dp_up S2.up _ _ (dp_up up _ _ dv)) (.cons (dp_up S2.up _ _ (dp_up up _ _ dw)) .nil)))⟩
def dZip2 (fs : DEs) : DEs := fun env => (fs env).bind fun ds => match ds with
  | [.tuple a, .tuple b] => .ret (zip2 a b)
  | [.list a, .list b] => .ret (zip2 a b)
  | _ => .bad
def rngC (lo c : Int) (n : Nat) : List D := (List.range n).map fun (i : Nat) => PyData.int (lo + (i : Int) * c)
theorem rngC_get {lo c : Int} {n i : Nat} {d : D} (h : (rngC lo c n)[i]? = some d) : i < n ∧ d = .int (lo + (i : Int) * c) := by
  unfold rngC at h
  rw [List.getElem?_map] at h
  by_cases hi : i < n
  · rw [List.getElem?_range hi] at h
    cases h
    exact ⟨hi, rfl⟩
  · rw [List.getElem?_eq_none (by simpa using hi)] at h; cases h
theorem itok_rngC {K : PySem.W.Frag} {dr : Dr} {F : Hp} (lo c : Int) (n : Nat) : ItOk K dr (Itc lo c n) (rngC lo c n) F where
  stop := fun F1 H1 i up s hi => by
    have : (rngC lo c n).length = n := by simp [rngC]
    show n ≤ i
    omega
  go := fun F1 H1 i d up s hd => by
    obtain ⟨h1, rfl⟩ := rngC_get hd
    refine ⟨h1, fun x H2 y => ?_⟩
    obtain ⟨e, y⟩ := y
    subst e
    subst y
    exact ⟨F1, .refl, s, .dp (.int _)⟩
def dRng3 (fs : DEs) : DEs := fun env => (fs env).bind fun ds => match ds with
  | [.int i, .int j, .int c] => if c ≠ 0 ∧ c.natAbs < 1073741824 ∧ Builtin.Range.small i j c = true ∧ 0 ≤ Builtin.Range.rangeSize i j c then .ret (rngC i c (Builtin.Range.rangeSize i j c).toNat) else .bad
  | _ => .bad
section
variable {X : Cx} {tg e a b c : Expr} {es : List Expr} {f f1 f2 f3 : DE} {fs : DEs} {t u : DT} {pos : Pos}
theorem i_zip2 {p tpos : Pos} {elts : List Expr} {kk : Nat} (hg : Gl X "zip") (hm : X.mg "zip" = none) (ha : PA X [a, b] (tA X.K fs))
    (hs : starEach [a, b] X.env = (false, eval a X.env) :: starEach [b] X.env := by rfl) (hpl : (backTo pos (starEach [b] X.env)).any (·.1) = false := by rfl) :
    PI X (.Tuple elts kk tpos) (.Call (.Name "zip" p) [a, b] [] pos) (tI X.K (dZip2 fs)) :=
  pi_imp (pi_zipA hg hm ha hs hpl) fun σ H R ⟨dr, B, F, env, s, r, q⟩ => ⟨dr, B, F, env, s, r, Cm.All.mono (by
    intro ds k vs F' H' S' T' rv
    split at k
    · cases rv with
      | cons r1 rv =>
        cases rv with
        | cons r2 rv =>
          cases rv
          obtain ⟨p1, v1, rfl, h1, h2⟩ := bp_tup (.r (H := H') r1)
          obtain ⟨p2, v2, rfl, h3, h4⟩ := bp_tup (.r (H := H') r2)
          exact ⟨p1, p2, v1, v2, rfl, .inr ⟨sqt_up T'.sub h1, sqt_up T'.sub h3, k _ F' H' S' T' (itok_zipT h1 h2 h3 h4)⟩⟩
    · cases rv with
      | cons r1 rv =>
        cases rv with
        | cons r2 rv =>
          cases rv
          cases r1 with
          | dp z1 =>
            cases z1 with
            | lst h1 h2 =>
              cases r2 with
              | dp z2 =>
                cases z2 with
                | lst h3 h4 => exact ⟨_, _, _, _, rfl, .inl ⟨sql_up T'.sub h1, sql_up T'.sub h3, k _ F' H' S' T' (itok_zipL h1 h2 h3 h4)⟩⟩
    · exact k.elim) (Cm.all_bind.mp q)⟩
theorem i_rng3 {p : Pos} (hg : Gl X "range") (hm : X.mg "range" = none) (ha : PA X [a, b, c] (tA X.K fs))
    (hs : starEach [a, b, c] X.env = (false, eval a X.env) :: starEach [b, c] X.env := by rfl) (hpl : (backTo pos (starEach [b, c] X.env)).any (·.1) = false := by rfl) :
    PI X tg (.Call (.Name "range" p) [a, b, c] [] pos) (tI X.K (dRng3 fs)) :=
  pi_imp (pi_range3 hg hm ha hs hpl) fun σ H R ⟨dr, B, F, env, s, r, q⟩ => ⟨dr, B, F, env, s, r, Cm.All.mono (by
    intro ds k vs F' H' S' T' rv
    split at k
    · rename_i i j cc
      cases rv with
      | cons r1 rv =>
        cases rv with
        | cons r2 rv =>
          cases rv with
          | cons r3 rv =>
            cases rv
            cases rp_int r1
            cases rp_int r2
            cases rp_int r3
            split at k
            · rename_i hj
              exact ⟨i, j, cc, _, rfl, ⟨hj.1, hj.2.1, hj.2.2.1, (Int.toNat_of_nonneg hj.2.2.2).symm⟩, k _ F' H' S' T' (itok_rngC i cc _)⟩
            · exact k.elim
    · exact k.elim) (Cm.all_bind.mp q)⟩
end

/-! ### dicts of the body's own, keys ints and texts -/
def keyEq : D → D → Bool
  | .int i, .int j => i == j
  | .str i, .str j => decide (i = j)
  | _, _ => false
def isKey : D → Bool
  | .int _ => true
  | .str _ => true
  | _ => false
def putD (kvs : List (D × D)) (k v : D) : List (D × D) := if (kvs.any fun e => keyEq e.1 k) = true then kvs.map (fun e => if keyEq e.1 k = true then (e.1, v) else e) else kvs ++ [(k, v)]
def lookD (kvs : List (D × D)) (k : D) : Option D := (kvs.find? fun e => keyEq e.1 k).map (·.2)
theorem key_flat {d : D} (h : isKey d = true) : flatD d = true := by
  cases d with
  | dict _ => cases h
  | none => rfl
  | bool _ => rfl
  | int _ => rfl
  | str _ => rfl
  | list _ => rfl
  | tuple _ => rfl
def asKey : D → Key
  | .int i => .inl i
  | .str s => .inr s
  | _ => .inl 0
section
variable {K : PySem.W.Frag} {F : Hp}
theorem key_dp {k : Key} {d : D} (h : Dp K F (kV k) d) : isKey d = true ∧ asKey d = k := by
  cases k with
  | inl i => cases h; exact ⟨rfl, rfl⟩
  | inr s => cases h; exact ⟨rfl, rfl⟩
theorem dp_key {v : V} {d : D} (h : Dp K F v d) (hk : isKey d = true) : v = kV (asKey d) := by
  cases d with
  | int i => cases h; rfl
  | str i => cases h; rfl
  | none => cases hk
  | bool _ => cases hk
  | list _ => cases hk
  | tuple _ => cases hk
  | dict _ => cases hk
theorem keyEq_as {a b : D} (ha : isKey a = true) (hb : isKey b = true) : keyEq a b = decide (asKey a = asKey b) := by
  cases a with
  | int i =>
    cases b with
    | int j => simp [keyEq, asKey]; exact (Bool.beq_eq_decide_eq i j)
    | str j => simp [keyEq, asKey]
    | none => cases hb
    | bool _ => cases hb
    | list _ => cases hb
    | tuple _ => cases hb
    | dict _ => cases hb
  | str i =>
    cases b with
    | int j => simp [keyEq, asKey]
    | str j => simp [keyEq, asKey]
    | none => cases hb
    | bool _ => cases hb
    | list _ => cases hb
    | tuple _ => cases hb
    | dict _ => cases hb
  | none => cases ha
  | bool _ => cases ha
  | list _ => cases ha
  | tuple _ => cases ha
  | dict _ => cases ha
abbrev KvOk (K : PySem.W.Frag) (F : Hp) (x : Key × V) (y : D × D) : Prop := Dp K F (kV x.1) y.1 ∧ Dp K F x.2 y.2
theorem kv_look {k : D} (hk : isKey k = true) : ∀ {ks : List (Key × V)} {kvs : List (D × D)}, Paired (KvOk K F) ks kvs →
    (∀ d, lookD kvs k = some d → ∃ v, valV ks (asKey k) = some v ∧ Dp K F v d) ∧ (lookD kvs k = none → valV ks (asKey k) = none)
  | _, _, .nil => ⟨fun d h => by simp [lookD] at h, fun _ => rfl⟩
  | (k1, v1) :: ks, (d1, e1) :: kvs, .cons r t => by
    obtain ⟨h1, h2⟩ := key_dp r.1
    have e := keyEq_as h1 hk
    have ih := kv_look hk t
    by_cases hc : k1 = asKey k
    · have ec : keyEq d1 k = true := by rw [e, h2]; exact decide_eq_true hc
      have l1 : lookD ((d1, e1) :: kvs) k = some e1 := by simp [lookD, List.find?_cons, ec]
      refine ⟨fun d h => ?_, fun h => ?_⟩
      · rw [l1] at h; cases h; exact ⟨v1, valV_pos (p := (k1, v1)) hc, r.2⟩
      · rw [l1] at h; cases h
    · have ec : keyEq d1 k = false := by rw [e, h2]; exact decide_eq_false hc
      have l1 : lookD ((d1, e1) :: kvs) k = lookD kvs k := by simp [lookD, List.find?_cons, ec]
      rw [l1, valV_neg (p := (k1, v1)) hc]
      exact ih
theorem paired_app {α β : Type} {R : α → β → Prop} : ∀ {xs zs : List α} {ys ws : List β}, Paired R xs ys → Paired R zs ws → Paired R (xs ++ zs) (ys ++ ws)
  | _, _, _, _, .nil, h => h
  | _, _, _, _, .cons r t, h => .cons r (paired_app t h)
theorem kv_any {k : D} (hk : isKey k = true) : ∀ {ks : List (Key × V)} {kvs : List (D × D)}, Paired (KvOk K F) ks kvs → (ks.any fun kv => decide (kv.1 = asKey k)) = (kvs.any fun e => keyEq e.1 k)
  | _, _, .nil => rfl
  | (k1, v1) :: ks, (d1, e1) :: kvs, .cons r t => by
    obtain ⟨h1, h2⟩ := key_dp r.1
    have e := keyEq_as h1 hk
    simp only [List.any_cons]
    rw [kv_any hk t, e, h2]
theorem kv_map {k d : D} {v : V} (hk : isKey k = true) (hv : Dp K F v d) : ∀ {ks : List (Key × V)} {kvs : List (D × D)}, Paired (KvOk K F) ks kvs →
    Paired (KvOk K F) (ks.map fun kv => if kv.1 = asKey k then (kv.1, v) else kv) (kvs.map fun e => if keyEq e.1 k = true then (e.1, d) else e)
  | _, _, .nil => .nil
  | (k1, v1) :: ks, (d1, e1) :: kvs, .cons r t => by
    obtain ⟨h1, h2⟩ := key_dp r.1
    have e := keyEq_as h1 hk
    refine .cons ?_ (kv_map hk hv t)
    show KvOk K F (if k1 = asKey k then (k1, v) else (k1, v1)) (if keyEq d1 k = true then (d1, d) else (d1, e1))
    by_cases hc : k1 = asKey k
    · rw [if_pos hc, if_pos (by rw [e, h2]; exact decide_eq_true hc)]
      exact ⟨r.1, hv⟩
    · rw [if_neg hc, if_neg (by rw [e, h2]; exact fun z => hc (of_decide_eq_true z))]
      exact r
theorem kv_put {k d : D} {v : V} {ks : List (Key × V)} {kvs : List (D × D)} (hk : isKey k = true) (hv : Dp K F v d) (h : Paired (KvOk K F) ks kvs) : Paired (KvOk K F) (putK ks (asKey k) v) (putD kvs k d) := by
  unfold putK putD
  rw [kv_any hk h]
  split
  · exact kv_map hk hv h
  · refine paired_app h (.cons ⟨?_, hv⟩ .nil)
    cases k with
    | int i => exact .int i
    | str i => exact .str i
    | none => cases hk
    | bool _ => cases hk
    | list _ => cases hk
    | tuple _ => cases hk
    | dict _ => cases hk
end
def dNewD : DE := fun _ => .ret (.dict [])
def dDPut (i : Nat) (fk fv : DE) : DS := fun env => (fv env).bind fun d => match env[i]? with
  | some (.own (.dict kvs)) => (fk env).bind fun k => if isKey k = true ∧ kvs.length < 1000000 ∧ flatD d = true then .ret (.nx (env.set i (.own (.dict (putD kvs k d))))) else .bad
  | _ => .bad
def dDGet (i : Nat) (fk : DE) : DE := fun env => match env[i]? with
  | some (.own (.dict kvs)) => (fk env).bind fun k => if isKey k = true then (match lookD kvs k with
    | some d => .ret d
    | none => .bad) else .bad
  | _ => .bad
def dDIn (i : Nat) (fk : DE) : DE := fun env => (fk env).bind fun k => match env[i]? with
  | some (.own (.dict kvs)) => if isKey k = true then .ret (.bool (lookD kvs k).isSome) else .bad
  | _ => .bad
section
variable {X : Cx} {e a b c o : Expr} {es : List Expr} {f f1 f2 f3 : DE} {fs : DEs} {t u : DT} {pos : Pos}
theorem f_dnew : PE X (.Dict [] [] pos) (tF X.K dNewD) := pe_imp pe_dnewK fun σ H Q ⟨dr, B, F, env, s, r, q⟩ p hp => by
  obtain ⟨S2, T2, nf⟩ := lay_own s hp (.dK [])
  exact q p F _ S2 T2 hp nf ⟨[], upd_same, .nil⟩
theorem s_dput {i : Nat} {pos' : Pos} (hu : X.A.units + 1 < cLine) (ho : PE X o (tVar i)) (hk : PE X a (tE X.K f1)) (hv : PE X e (tE X.K f)) (hs : swapsWith e (some (.Subscript o a pos')) pos.line X.env = pure false := by rfl) :
    PS X (.Assign [.Subscript o a pos'] e pos) (tS X.K (dDPut i f1 f)) :=
  ps_imp (ps_dput hu ho hk hv hs) fun Dn σ H ⟨dr, F0, H0, F, env, T0, S, r, q⟩ => ⟨dr, H0, F, env, T0, r, Cm.All.mono (by
    intro d k v F1 H1 S1 T1 r1
    split at k
    · rename_i kvs hi
      have ra := r.step S1
      obtain ⟨o1, ho1, p, hq, hB, hF, hn, ks, hv, hx⟩ := ra.ok i _ hi
      subst hq
      refine ⟨_, ho1, dr, H0, F1, env, T1, ra, Cm.All.mono ?_ (Cm.all_bind.mp k)⟩
      intro dk k2 w F2 H2 S2 T2 r2
      split at k2
      · rename_i hc
        have hv' := S2.keep p _ hn hv
        have hkd := rp_flat r2 (key_flat hc.1)
        have ew := dp_key hkd hc.1
        have hl : ks.length < sizeLine := by rw [hx.length]; exact Nat.lt_of_lt_of_le hc.2.1 (by decide)
        rw [ew]
        have hx2 : Paired (KvOk X.K F2) ks kvs := paired_mono (fun _ _ q => ⟨dp_up S2.up _ _ q.1, dp_up S2.up _ _ q.2⟩) hx
        refine ⟨p, _, rfl, DPut.k hv' hl, ?_⟩
        obtain ⟨R2, T3, hb2⟩ := (ra.step S2).write T2 (o := .dK (putK ks (asKey dk) v)) (d' := .dict (putD kvs dk d)) hi ho1 ⟨_, upd_same, kv_put hc.1 (dp_up S2.up _ _ (rp_flat r1 hc.2.2)) hx2⟩
        exact k2 σ F2 _ T3 (step_write ((S.trans S1 T1).trans S2 T2) hB) R2
      · exact k2.elim
    · exact k.elim) (Cm.all_bind.mp q)⟩
theorem e_dget {i : Nat} (hu : X.A.units + 1 < cLine) (ho : PE X o (tVar i)) (hk : PE X a (tE X.K f1)) (hs : NoSl a) : PE X (.Subscript o a pos) (tE X.K (dDGet i f1)) :=
  pe_imp (pe_dget hu ho hk hs) fun σ H Q ⟨dr, B, F, env, T0, r, q⟩ => by
    unfold dDGet at q
    split at q
    · rename_i kvs hi
      obtain ⟨o1, ho1, p, hq, hB, hF, hn, ks, hv, hx⟩ := r.ok i _ hi
      subst hq
      refine ⟨_, ho1, dr, B, F, env, T0, r, Cm.All.mono ?_ (Cm.all_bind.mp q)⟩
      intro dk k2 w F2 H2 S2 T2 r2
      split at k2
      · rename_i hc
        have hv' := S2.keep p _ hn hv
        have hkd := rp_flat r2 (key_flat hc)
        have ew := dp_key hkd hc
        rw [ew]
        have hx2 : Paired (KvOk X.K F2) ks kvs := paired_mono (fun _ _ q => ⟨dp_up S2.up _ _ q.1, dp_up S2.up _ _ q.2⟩) hx
        split at k2
        · rename_i d hd
          obtain ⟨v, h1, h2⟩ := (kv_look hc hx2).1 d hd
          refine ⟨p, v, rfl, ?_, k2 v F2 H2 S2 T2 (.dp h2)⟩
          have := DGet.k (k := asKey dk) hv'
          rw [h1] at this
          exact this
        · exact k2.elim
      · exact k2.elim
    · exact q.elim
theorem din_red {K : PySem.W.Frag} {i : Nat} {σ : L2.St} {H : Hp} {Q : VK} (h : tE K (dDIn i f1) σ H Q) : tDIn (tE K f1) (tVar i) σ H Q := by
  obtain ⟨dr, B, F, env, T0, r, q⟩ := h
  refine ⟨dr, B, F, env, T0, r, Cm.All.mono ?_ (Cm.all_bind.mp q)⟩
  intro dk k2 w F2 H2 S2 T2 r2
  have ra := r.step S2
  split at k2
  · rename_i kvs hi
    obtain ⟨o1, ho1, p, hq, hB, hF, hn, ks, hv, hx⟩ := ra.ok i _ hi
    subst hq
    split at k2
    · rename_i hc
      have hkd := rp_flat r2 (key_flat hc)
      have ew := dp_key hkd hc
      rw [ew]
      refine ⟨_, ho1, p, _, rfl, DGet.k hv, ?_⟩
      have e : (valV ks (asKey dk)).isSome = (lookD kvs dk).isSome := by
        cases hl : lookD kvs dk with
        | none => rw [(kv_look hc hx).2 hl]; rfl
        | some d => obtain ⟨v, h1, _⟩ := (kv_look hc hx).1 d hl; rw [h1]; rfl
      rw [e]
      exact k2 _ F2 H2 S2 T2 (.dp (.bl _))
    · exact k2.elim
  · exact k2.elim
theorem e_din {i : Nat} (hu : X.A.units + 1 < cLine) (hk : PE X a (tE X.K f1)) (ho : PE X o (tVar i)) (h1 : behindInMarks .In o = false := by rfl) : PE X (.Compare a [.In] [o] pos) (tE X.K (dDIn i f1)) :=
  pe_imp (pe_cmp (pc_din hu hk ho) h1) fun _ _ _ h => din_red h
theorem t_din {i : Nat} (hu : X.A.units + 1 < cLine) (hk : PE X a (tE X.K f1)) (ho : PE X o (tVar i)) (h1 : behindInMarks .In o = false := by rfl) : PT X (.Compare a [.In] [o] pos) (tT X.K (dTru (dDIn i f1))) :=
  pt_imp (pt_cmp (pc_din hu hk ho) h1) fun _ _ _ h => din_red (tru_red h)
end
end Fs

set_option Elab.async false
set_option linter.all false
set_option maxRecDepth 100000
set_option maxHeartbeats 2000000
set_option autoImplicit false
namespace Fs
open PySem PySem.Spec PyProof.Rows L2
/-! ### the draws -/
abbrev kLarge : Key := .inr "large"
abbrev kRest : Key := .inr "rest"
abbrev kCells : Key := .inr "cells"
abbrev kTurn : Key := .inr "turn"
abbrev drKv (l c : Addr) (rest turn : Int) : List (Key × V) := [(kLarge, .ref l), (kRest, .int rest), (kCells, .ref c), (kTurn, .int turn)]
structure DrAt (dr : Dr) (H : Hp) (large cells : List Int) (rest turn : Int) : Prop where
  a : H dr.a = some (.dK (drKv dr.l dr.c rest turn))
  l : H dr.l = some (.lst (large.map V.int))
  c : H dr.c = some (.lst (cells.map V.int))
  n : dr.l ≠ dr.c
theorem DrawOk.at {dr : Dr} {H : Hp} (h : DrawOk dr H) : ∃ large cells rest turn, DrAt dr H large cells rest turn := by
  obtain ⟨l, c, r, t, h1, h2, h3, h4⟩ := h
  exact ⟨l, c, r, t, h1, h2, h3, h4⟩
theorem DrAt.ok {dr : Dr} {H : Hp} {large cells : List Int} {rest turn : Int} (h : DrAt dr H large cells rest turn) : DrawOk dr H := ⟨large, cells, rest, turn, h.a, h.l, h.c, h.n⟩
theorem DrAt.al {dr : Dr} {H : Hp} {large cells : List Int} {rest turn : Int} (h : DrAt dr H large cells rest turn) : dr.l ≠ dr.a := ne_of h.l h.a (fun z => by cases z)
theorem DrAt.ac {dr : Dr} {H : Hp} {large cells : List Int} {rest turn : Int} (h : DrAt dr H large cells rest turn) : dr.c ≠ dr.a := ne_of h.c h.a (fun z => by cases z)
theorem dr_setA {dr : Dr} {F H : Hp} {large cells : List Int} {rest turn : Int} (s : Stt dr F H) (h : DrAt dr H large cells rest turn) (r t : Int) :
    Stt dr F (upd H dr.a (.dK (drKv dr.l dr.c r t))) ∧ Step dr F H F (upd H dr.a (.dK (drKv dr.l dr.c r t))) ∧ DrAt dr (upd H dr.a (.dK (drKv dr.l dr.c r t))) large cells r t := by
  have D : DrAt dr (upd H dr.a (.dK (drKv dr.l dr.c r t))) large cells r t := ⟨upd_same, by rw [upd_ne h.al]; exact h.l, by rw [upd_ne h.ac]; exact h.c, h.n⟩
  refine ⟨⟨fun a o e => ?_, D.ok, s.nodr⟩, ⟨fun _ _ e => e, fun a o n e => ?_, fun _ _ e => .inl e⟩, D⟩
  · by_cases e1 : a = dr.a
    · rw [e1, s.nodr _ (.inl rfl)] at e; cases e
    · rw [upd_ne e1]; exact s.sub a o e
  · rw [upd_ne (fun e1 => n (.inl e1))]; exact e
theorem dr_setL {dr : Dr} {F H : Hp} {large cells : List Int} {rest turn : Int} (s : Stt dr F H) (h : DrAt dr H large cells rest turn) (m : List Int) :
    Stt dr F (upd H dr.l (.lst (m.map V.int))) ∧ Step dr F H F (upd H dr.l (.lst (m.map V.int))) ∧ DrAt dr (upd H dr.l (.lst (m.map V.int))) m cells rest turn := by
  have D : DrAt dr (upd H dr.l (.lst (m.map V.int))) m cells rest turn := ⟨by rw [upd_ne h.al.symm]; exact h.a, upd_same, by rw [upd_ne h.n.symm]; exact h.c, h.n⟩
  refine ⟨⟨fun a o e => ?_, D.ok, s.nodr⟩, ⟨fun _ _ e => e, fun a o n e => ?_, fun _ _ e => .inl e⟩, D⟩
  · by_cases e1 : a = dr.l
    · rw [e1, s.nodr _ (.inr (.inl rfl))] at e; cases e
    · rw [upd_ne e1]; exact s.sub a o e
  · rw [upd_ne (fun e1 => n (.inr (.inl e1)))]; exact e
theorem putRest (l c : Addr) (r t r' : Int) : putK (drKv l c r t) kRest (.int r') = drKv l c r' t := rfl
theorem putTurn (l c : Addr) (r t t' : Int) : putK (drKv l c r t) kTurn (.int t') = drKv l c r t' := rfl
theorem gLarge (l c : Addr) (r t : Int) : valV (drKv l c r t) kLarge = some (.ref l) := rfl
theorem gRest (l c : Addr) (r t : Int) : valV (drKv l c r t) kRest = some (.int r) := rfl
theorem gCells (l c : Addr) (r t : Int) : valV (drKv l c r t) kCells = some (.ref c) := rfl
theorem gTurn (l c : Addr) (r t : Int) : valV (drKv l c r t) kTurn = some (.int t) := rfl
/-- reading and storing in the draws' dict -/
theorem DrAt.get {dr : Dr} {H : Hp} {large cells : List Int} {rest turn : Int} (h : DrAt dr H large cells rest turn) {k : Key} {v : V} (e : valV (drKv dr.l dr.c rest turn) k = some v) : DGet H dr.a (kV k) (some v) := by
  rw [← e]; exact DGet.k h.a
theorem DrAt.putR {dr : Dr} {H : Hp} {large cells : List Int} {rest turn : Int} (h : DrAt dr H large cells rest turn) (r : Int) : DPut H dr.a (kV kRest) (.int r) (upd H dr.a (.dK (drKv dr.l dr.c r turn))) := by
  rw [← putRest dr.l dr.c rest turn r]; exact DPut.k h.a (show 4 < sizeLine by decide)
theorem DrAt.putT {dr : Dr} {H : Hp} {large cells : List Int} {rest turn : Int} (h : DrAt dr H large cells rest turn) (t : Int) : DPut H dr.a (kV kTurn) (.int t) (upd H dr.a (.dK (drKv dr.l dr.c rest t))) := by
  rw [← putTurn dr.l dr.c rest turn t]; exact DPut.k h.a (show 4 < sizeLine by decide)
/-- what the three defs are worth -/
def isDrw : D → Bool
  | .dict [(.none, .none)] => true
  | _ => false
theorem isDrw_eq {d : D} (h : isDrw d = true) : d = drwT := by
  unfold isDrw at h
  split at h
  · rfl
  · cases h
theorem rp_drw {K : PySem.W.Frag} {dr : Dr} {F : Hp} {v : V} (h : Rp K dr F v drwT) : v = .ref dr.a := by
  cases h with
  | dp z => cases z
  | drw => rfl
def m_Lmixed : List D → Cm D := fun ds => match ds with
  | [d] => if isDrw d = true then .anyI fun i => .ret (.int i) else .bad
  | _ => .bad
def m_Ltake : List D → Cm D := fun ds => match ds with
  | [d, .int n] => if isDrw d = true ∧ 0 < n ∧ n.natAbs.log2 < 9000 then .ask n.toNat fun r => .ret (.int (r : Int)) else .bad
  | _ => .bad
/-- the state's facts carried on -/
theorem DrAt.ext {dr : Dr} {H H' : Hp} {large cells : List Int} {rest turn : Int} (h : DrAt dr H large cells rest turn) (k : ∀ a o, dr.has a → H a = some o → H' a = some o) : DrAt dr H' large cells rest turn :=
  ⟨k _ _ (.inl rfl) h.a, k _ _ (.inr (.inl rfl)) h.l, k _ _ (.inr (.inr rfl)) h.c, h.n⟩
theorem stt_grow {dr : Dr} {F H : Hp} (s : Stt dr F H) {p : Addr} (hp : H p = none) (o : HO) : Stt dr F (upd H p o) ∧ Step dr F H F (upd H p o) := by
  obtain ⟨a, b, _⟩ := lay_own s hp o
  exact ⟨b, a⟩
theorem grow_dr {dr : Dr} {H : Hp} {large cells : List Int} {rest turn : Int} (h : DrAt dr H large cells rest turn) {p : Addr} (hp : H p = none) (o : HO) : DrAt dr (upd H p o) large cells rest turn :=
  h.ext fun a u _ e => by rw [upd_ne (ne_of_none e hp)]; exact e
theorem map_int_inj {a b : List Int} (h : a.map V.int = b.map V.int) : a = b := by
  induction a generalizing b with
  | nil => cases b with
    | nil => rfl
    | cons _ _ => cases h
  | cons x r ih => cases b with
    | nil => cases h
    | cons y s =>
      simp only [List.map_cons, List.cons.injEq, V.int.injEq] at h
      rw [h.1, ih h.2]
theorem canLay_ints : ∀ ns : List Int, PyData.canLayAll0 (ns.map .int) = true
  | [] => by simp [PyData.canLayAll0]
  | n :: r => by
    rw [List.map_cons, PyData.canLayAll0, canLay_ints r]
    simp [PyData.canLay0]
theorem depth_ints : ∀ ns : List Int, PyData.depthAll (ns.map .int) = 0
  | [] => by simp [PyData.depthAll]
  | n :: r => by
    rw [List.map_cons, PyData.depthAll, depth_ints r]
    simp [PyData.depth]
theorem shaped_ints (ns : List Int) : SeqAt.shaped (.list (ns.map .int)) = true := by
  unfold SeqAt.shaped
  rw [PyData.canLay0, PyData.depth, canLay_ints, depth_ints]
  decide
def ite_nil (ns : List Int) : Prop := ∃ x r, ns = x :: r
theorem ite_nil_of {ns : List Int} (h : (!PyData.eqv (.list (ns.map .int)) (.list [])) = true) : ite_nil ns := by
  cases ns with
  | nil => simp [PyData.eqv, PyData.eqvAll] at h
  | cons x r => exact ⟨x, r, rfl⟩
theorem greats {i : Nat} {x : V} (h : [V.int 2147483647, V.int 2147483629, V.int 2147483587][i]? = some x) : ∃ g : Int, x = .int g ∧ 0 < g ∧ g < 2147483648 := by
  match i, h with
  | 0, h => cases h; exact ⟨_, rfl, by decide, by decide⟩
  | 1, h => cases h; exact ⟨_, rfl, by decide, by decide⟩
  | 2, h => cases h; exact ⟨_, rfl, by decide, by decide⟩
  | _ + 3, h => simp at h
/-- all that was tracked is as it was -/
def Kept (H H' : Hp) : Prop := ∀ b o, H b = some o → H' b = some o
theorem Kept.refl (H : Hp) : Kept H H := fun _ _ h => h
theorem Kept.trans {H H1 H2 : Hp} (a : Kept H H1) (b : Kept H1 H2) : Kept H H2 := fun c o h => b c o (a c o h)
theorem Kept.new {H : Hp} {p : Addr} {o : HO} (h : H p = none) : Kept H (upd H p o) := fun a u e => by rw [upd_ne (ne_of_none e h)]; exact e
theorem Kept.mut {H H' : Hp} {p : Addr} {o : HO} (k : Kept H H') (h : H p = none) : Kept H (upd H' p o) := fun a u e => by rw [upd_ne (ne_of_none e h)]; exact k a u e
theorem Kept.none {H H' : Hp} (k : Kept H H') {p : Addr} (h : H' p = .none) : H p = .none := by
  cases q : H p with
  | none => rfl
  | some o => rw [k p o q] at h; cases h
/-- what _law_begun promises -/
def spBegun (K : PySem.W.Frag) : Sp := fun vs H Q _ => ∃ (a : Addr) (ns : List Int), vs = [.ref a] ∧ SqL K H a (ns.map V.int) ∧ ns.length ≤ 63 ∧
  ∀ dr H', Kept H H' → DrawOk dr H' → H dr.a = none → H dr.l = none → H dr.c = none → Q (.ref dr.a) H'
end Fs

set_option Elab.async false
set_option linter.all false
set_option maxRecDepth 100000
set_option maxHeartbeats 2000000
set_option autoImplicit false
namespace Fs
open PySem PySem.Spec PyProof.Rows

/-! ### tuple(zip(x, y, z)) of three tuples -/
abbrev ZipOut (h : Heap) (z TI TO T : Addr) (f : Bool) : Prop := IsZipHeld h z TI TO T f
section
variable {prog : Program} {w : World} {A : Around} {E : Value → Shared → Prop} {s : Shared} {z TI TO i1 i2 i3 T : Addr} {fp1 fp2 fp3 : List Addr} {n1 n2 n3 i : Nat} {P1 P2 P3 : Nat → Value → Prop} {St1 St2 St3 : Nat → Heap → Prop} {f : Bool} {oT : Obj}

theorem z3_item {Q : Value → Shared → Prop} (S : ZipSep3 z TI TO i1 i2 i3 fp1 fp2 fp3) (D1 : Draws prog w A i1 fp1 n1 P1 St1) (D2 : Draws prog w A i2 fp2 n2 P2 St2) (D3 : Draws prog w A i3 fp3 n3 P3 St3)
    (hz : ZipOut s.heap z TI TO T f) (hT : s.heap.get? T = some oT) (hTI : IsTupOf3 s.heap TI (.ref i1) (.ref i2) (.ref i3)) (st1 : St1 i s.heap) (st2 : St2 i s.heap) (st3 : St3 i s.heap) (l1 : i < n1) (l2 : i < n2) (l3 : i < n3)
    (hQ : ∀ x1 x2 x3 h' tk, P1 i x1 → P2 i x2 → P3 i x3 → ZipOut h' z TI TO T true → St1 (i + 1) h' → St2 (i + 1) h' → St3 (i + 1) h' → IsTupOf3 h' s.heap.objs.size x1 x2 x3 →
      (∀ c o, c ≠ z → c ≠ i1 → c ≠ i2 → c ≠ i3 → s.heap.get? c = some o → h'.get? c = some o) → Q (.ref s.heap.objs.size) { s with heap := h', toks := tk }) :
    wpAny (model prog w) A (Builtin.«zip.__next__» ⟨[.ref z], []⟩) (fun fin s' => ∃ v, fin = .done (.ret v) ∧ Q v s') E s := by
  obtain ⟨hp, g, d, tk0, os⟩ := s
  show wpAny _ _ (field (.ref z) 2 >>= _) _ _ _
  refine wpAny_bind (wpAny_field hz rfl (x := .bool false) rfl ?_)
  show wpAny _ _ (field (.ref z) 3 >>= _) _ _ _
  refine wpAny_bind (wpAny_field hz rfl (x := .ref TI) rfl ?_)
  refine wpAny_bind (wpAny_seqItems hTI rfl ?_)
  show wpAny _ _ (Builtin.SmallTypes.ownedTupleIsFree (.ref z) >>= _) _ _ _
  refine wpAny_bind (wpAny_tupleHeld_zip hz hT fun h₁ hz₁ hs₁ => ?_)
  replace hs₁ : Heap.SameBut z hp h₁ := hs₁
  simp only [Bool.false_eq_true, if_false]
  refine wpAny_bind ?_
  rw [← Array.forIn_toList]
  simp only [List.forIn_cons, List.forIn_nil]
  refine wpAny_bind (wpAny_bind (wpAny_holding ?_))
  show wpAny _ _ (Builtin.SmallTypes.nextOf (.ref i1) >>= _) _ _ ⟨h₁, g, d, tk0, os⟩
  refine wpAny_bind (D1.item i _ _ _ l1 (D1.over st1 hs₁ S.zf1) fun x1 p1 tk1 hx1 sn1 hp1 => wpAny_pure ?_)
  replace hp1 : Heap.SameBut i1 h₁ p1 := hp1
  refine wpAny_pure ?_
  refine wpAny_bind (wpAny_bind (wpAny_holding ?_))
  show wpAny _ _ (Builtin.SmallTypes.nextOf (.ref i2) >>= _) _ _ ⟨p1, g, d, tk1, os⟩
  refine wpAny_bind (D2.item i _ _ _ l2 (D2.over (D2.over st2 hs₁ S.zf2) hp1 S.sep1_2) fun x2 p2 tk2 hx2 sn2 hp2 => wpAny_pure ?_)
  replace hp2 : Heap.SameBut i2 p1 p2 := hp2
  refine wpAny_pure ?_
  refine wpAny_bind (wpAny_bind (wpAny_holding ?_))
  show wpAny _ _ (Builtin.SmallTypes.nextOf (.ref i3) >>= _) _ _ ⟨p2, g, d, tk2, os⟩
  refine wpAny_bind (D3.item i _ _ _ l3 (D3.over (D3.over (D3.over st3 hs₁ S.zf3) hp1 S.sep1_3) hp2 S.sep2_3) fun x3 p3 tk3 hx3 sn3 hp3 => wpAny_pure ?_)
  replace hp3 : Heap.SameBut i3 p2 p3 := hp3
  refine wpAny_pure (wpAny_pure ?_)
  show wpAny _ _ (newTuple [x1, x2, x3] >>= _) _ _ _
  refine wpAny_bind (wpAny_newTuple ?_)
  have hsz : p3.objs.size = hp.objs.size := by rw [hp3.1, hp2.1, hp1.1, hs₁.1]
  have hzz : ZipOut p3 z TI TO T true := hp3.extBut _ _ S.zi3 (hp2.extBut _ _ S.zi2 (hp1.extBut _ _ S.zi1 hz₁))
  have hkk : ∀ c o, c ≠ z → c ≠ i1 → c ≠ i2 → c ≠ i3 → hp.get? c = some o → p3.get? c = some o := fun c o c0 c1 c2 c3 e =>
    hp3.extBut _ _ c3 (hp2.extBut _ _ c2 (hp1.extBut _ _ c1 (hs₁.extBut _ _ c0 e)))
  refine wpAny_pure ⟨_, rfl, ?_⟩
  have hU : IsTupOf3 (p3.push { cls := .type "tuple", data := .seq #[x1, x2, x3] }) p3.objs.size x1 x2 x3 := Heap.get?_push_size _ rfl
  have q1 := D1.frame _ _ (p3.push { cls := .type "tuple", data := .seq #[x1, x2, x3] }) (D1.over (D1.over sn1 hp2 S.sep2_1) hp3 S.sep3_1) fun b _ o e => Heap.get?_push_of_some _ e
  have q2 := D2.frame _ _ (p3.push { cls := .type "tuple", data := .seq #[x1, x2, x3] }) (D2.over sn2 hp3 S.sep3_2) fun b _ o e => Heap.get?_push_of_some _ e
  have q3 := D3.frame _ _ (p3.push { cls := .type "tuple", data := .seq #[x1, x2, x3] }) sn3 fun b _ o e => Heap.get?_push_of_some _ e
  rw [hsz] at hU
  show Q (.ref p3.objs.size) _
  rw [hsz]
  exact hQ x1 x2 x3 _ tk3 hx1 hx2 hx3 (Heap.get?_push_of_some _ hzz) q1 q2 q3 hU fun c o c0 c1 c2 c3 e => Heap.get?_push_of_some _ (hkk c o c0 c1 c2 c3 e)

theorem z3_end {Q : Fin → Shared → Prop} (S : ZipSep3 z TI TO i1 i2 i3 fp1 fp2 fp3) (D1 : Draws prog w A i1 fp1 n1 P1 St1) (D2 : Draws prog w A i2 fp2 n2 P2 St2) (D3 : Draws prog w A i3 fp3 n3 P3 St3)
    (hz : ZipOut s.heap z TI TO T f) (hT : s.heap.get? T = some oT) (hTI : IsTupOf3 s.heap TI (.ref i1) (.ref i2) (.ref i3)) (st1 : St1 i s.heap) (st2 : St2 i s.heap) (st3 : St3 i s.heap) (l1 : i ≤ n1) (l2 : i ≤ n2) (l3 : i ≤ n3) (he : i = n1 ∨ i = n2 ∨ i = n3)
    (hE : ∀ h' tk e, (∀ c o, c ≠ z → c ≠ i1 → c ≠ i2 → c ≠ i3 → s.heap.get? c = some o → h'.get? c = some o) → (∃ o, h'.get? e = some o ∧ o.cls = .type "StopIteration") → E (.ref e) { s with heap := h', toks := tk }) :
    wpAny (model prog w) A (Builtin.«zip.__next__» ⟨[.ref z], []⟩) Q E s := by
  obtain ⟨hp, g, d, tk0, os⟩ := s
  show wpAny _ _ (field (.ref z) 2 >>= _) _ _ _
  refine wpAny_bind (wpAny_field hz rfl (x := .bool false) rfl ?_)
  show wpAny _ _ (field (.ref z) 3 >>= _) _ _ _
  refine wpAny_bind (wpAny_field hz rfl (x := .ref TI) rfl ?_)
  refine wpAny_bind (wpAny_seqItems hTI rfl ?_)
  show wpAny _ _ (Builtin.SmallTypes.ownedTupleIsFree (.ref z) >>= _) _ _ _
  refine wpAny_bind (wpAny_tupleHeld_zip hz hT fun h₁ hz₁ hs₁ => ?_)
  replace hs₁ : Heap.SameBut z hp h₁ := hs₁
  simp only [Bool.false_eq_true, if_false]
  refine wpAny_bind ?_
  rw [← Array.forIn_toList]
  simp only [List.forIn_cons, List.forIn_nil]
  refine wpAny_bind (wpAny_bind (wpAny_holding ?_))
  show wpAny _ _ (Builtin.SmallTypes.nextOf (.ref i1) >>= _) _ _ ⟨h₁, g, d, tk0, os⟩
  by_cases q1 : i < n1
  · refine wpAny_bind (D1.item i _ _ _ q1 (D1.over st1 hs₁ S.zf1) fun x1 p1 tk1 hx1 sn1 hp1 => wpAny_pure ?_)
    replace hp1 : Heap.SameBut i1 h₁ p1 := hp1
    refine wpAny_pure ?_
    refine wpAny_bind (wpAny_bind (wpAny_holding ?_))
    show wpAny _ _ (Builtin.SmallTypes.nextOf (.ref i2) >>= _) _ _ ⟨p1, g, d, tk1, os⟩
    by_cases q2 : i < n2
    · refine wpAny_bind (D2.item i _ _ _ q2 (D2.over (D2.over st2 hs₁ S.zf2) hp1 S.sep1_2) fun x2 p2 tk2 hx2 sn2 hp2 => wpAny_pure ?_)
      replace hp2 : Heap.SameBut i2 p1 p2 := hp2
      refine wpAny_pure ?_
      have e3 : i = n3 := by omega
      refine wpAny_bind (wpAny_bind (wpAny_holding ?_))
      show wpAny _ _ (Builtin.SmallTypes.nextOf (.ref i3) >>= _) _ _ ⟨p2, g, d, tk2, os⟩
      refine wpAny_bind (D3.done ⟨p2, g, d, tk2, os⟩ _ _ (by rw [← e3]; exact D3.over (D3.over (D3.over st3 hs₁ S.zf3) hp1 S.sep1_3) hp2 S.sep2_3) fun q e hq he => ?_)
      exact hE q tk2 e (fun c o c0 c1 c2 c3 x => hq _ _ c3 (hp2.extBut _ _ c2 (hp1.extBut _ _ c1 (hs₁.extBut _ _ c0 x)))) he
    · have e2 : i = n2 := by omega
      refine wpAny_bind (D2.done ⟨p1, g, d, tk1, os⟩ _ _ (by rw [← e2]; exact D2.over (D2.over st2 hs₁ S.zf2) hp1 S.sep1_2) fun q e hq he => ?_)
      exact hE q tk1 e (fun c o c0 c1 c2 c3 x => hq _ _ c2 (hp1.extBut _ _ c1 (hs₁.extBut _ _ c0 x))) he
  · have e1 : i = n1 := by omega
    refine wpAny_bind (D1.done ⟨h₁, g, d, tk0, os⟩ _ _ (by rw [← e1]; exact D1.over st1 hs₁ S.zf1) fun q e hq he => ?_)
    exact hE q tk0 e (fun c o c0 c1 c2 c3 x => hq _ _ c1 (hs₁.extBut _ _ c0 x)) he

theorem z3_nextItem {Q : Option Value → Shared → Prop} (S : ZipSep3 z TI TO i1 i2 i3 fp1 fp2 fp3) (D1 : Draws prog w A.in1 i1 fp1 n1 P1 St1) (D2 : Draws prog w A.in1 i2 fp2 n2 P2 St2) (D3 : Draws prog w A.in1 i3 fp3 n3 P3 St3)
    (hz : ZipOut s.heap z TI TO T f) (hT : s.heap.get? T = some oT) (hTI : IsTupOf3 s.heap TI (.ref i1) (.ref i2) (.ref i3)) (st1 : St1 i s.heap) (st2 : St2 i s.heap) (st3 : St3 i s.heap) (l1 : i < n1) (l2 : i < n2) (l3 : i < n3)
    (hQ : ∀ x1 x2 x3 h' tk, P1 i x1 → P2 i x2 → P3 i x3 → ZipOut h' z TI TO T true → St1 (i + 1) h' → St2 (i + 1) h' → St3 (i + 1) h' → IsTupOf3 h' s.heap.objs.size x1 x2 x3 →
      (∀ c o, c ≠ z → c ≠ i1 → c ≠ i2 → c ≠ i3 → s.heap.get? c = some o → h'.get? c = some o) → Q (some (.ref s.heap.objs.size)) { s with heap := h', toks := tk }) :
    wpAny (model prog w) A (pyNext (.ref z)) Q E s := by
  have ty : s.TypeIs (.ref z) "zip" := ⟨_, hz, rfl⟩
  unfold pyNext
  refine wpAny_bind (wpAny_attempt (wpAny_callSpecial?_slot (name := Str.ofString "__next__") ty F.slot_zip_next ?_))
  refine wpAny_call_entry F.slot_zip_next ty F.entry_zip_next ?_ (F.args_zip_next_1 _)
  exact z3_item S D1 D2 D3 hz hT hTI st1 st2 st3 l1 l2 l3 fun x1 x2 x3 h' tk y1 y2 y3 b1 d1 d2 d3 b5 b7 => wpAny_pure (hQ x1 x2 x3 h' tk y1 y2 y3 b1 d1 d2 d3 b5 b7)
theorem z3_nextEnd {Q : Option Value → Shared → Prop} (S : ZipSep3 z TI TO i1 i2 i3 fp1 fp2 fp3) (D1 : Draws prog w A.in1 i1 fp1 n1 P1 St1) (D2 : Draws prog w A.in1 i2 fp2 n2 P2 St2) (D3 : Draws prog w A.in1 i3 fp3 n3 P3 St3)
    (hz : ZipOut s.heap z TI TO T f) (hT : s.heap.get? T = some oT) (hTI : IsTupOf3 s.heap TI (.ref i1) (.ref i2) (.ref i3)) (st1 : St1 i s.heap) (st2 : St2 i s.heap) (st3 : St3 i s.heap) (l1 : i ≤ n1) (l2 : i ≤ n2) (l3 : i ≤ n3) (he : i = n1 ∨ i = n2 ∨ i = n3)
    (hQ : ∀ h' tk, (∀ c o, c ≠ z → c ≠ i1 → c ≠ i2 → c ≠ i3 → s.heap.get? c = some o → h'.get? c = some o) → Q none { s with heap := h', toks := tk }) : wpAny (model prog w) A (pyNext (.ref z)) Q E s := by
  have ty : s.TypeIs (.ref z) "zip" := ⟨_, hz, rfl⟩
  unfold pyNext
  refine wpAny_bind (wpAny_attempt (wpAny_callSpecial?_slot (name := Str.ofString "__next__") ty F.slot_zip_next ?_))
  refine wpAny_call_entry F.slot_zip_next ty F.entry_zip_next (z3_end S D1 D2 D3 hz hT hTI st1 st2 st3 l1 l2 l3 he fun h' tk e hk hx => ?_) (F.args_zip_next_1 _)
  obtain ⟨o, ho, hc⟩ := hx
  refine wpAny_bind (wpAny_isInstance (T := "StopIteration") (b := true) ⟨o, ho, hc⟩ isSubtype_stop ?_)
  exact wpAny_pure (hQ _ _ hk)
end

/-! what a walk lays: the items so far are part of the state -/
structure WalkA (prog : Program) (w : World) (A : Around) (I S : Addr) (wr : List Addr) (n : Nat) (St : Nat → Array Value → Shared → Prop) (Fi : Array Value → Shared → Prop) : Prop where
  nS : S ∉ wr
  size : ∀ i acc s, St i acc s → acc.size = i
  frame : ∀ i acc (s : Shared) h' tk, St i acc s → (∀ b, b ≠ S → ∀ o, s.heap.get? b = some o → h'.get? b = some o) → s.heap.objs.size ≤ h'.objs.size → St i acc { s with heap := h', toks := tk }
  item : ∀ i acc (s : Shared) (Q : Option Value → Shared → Prop) (E : Value → Shared → Prop), i < n → St i acc s →
    (∀ v h' tk, St (i + 1) (acc.push v) { s with heap := h', toks := tk } → (∀ b o, b ∉ wr → s.heap.get? b = some o → h'.get? b = some o) → Q (some v) { s with heap := h', toks := tk }) → wpAny (model prog w) A (pyNext (.ref I)) Q E s
  done : ∀ acc (s : Shared) (Q : Option Value → Shared → Prop) (E : Value → Shared → Prop), St n acc s → (∀ h' tk, acc.size = n → Fi acc { s with heap := h', toks := tk } → (∀ b o, b ∉ wr → s.heap.get? b = some o → h'.get? b = some o) → Q none { s with heap := h', toks := tk }) → wpAny (model prog w) A (pyNext (.ref I)) Q E s
section
variable {prog : Program} {w : World} {A : Around} {R : Result → Shared → Prop} {I S : Addr} {wr : List Addr} {n : Nat} {St : Nat → Array Value → Shared → Prop} {Fi : Array Value → Shared → Prop}
theorem ext_loopA (W : WalkA prog w A.in1 I S wr n St Fi) (hn : n ≤ sizeLine) (res : Value) :
    ∀ (k i : Nat) (s : Shared) (acc : Array Value) (c : Nat), n - i = k → i ≤ n → St i acc s → s.heap.get? S = some { cls := .type "list", dict := none, data := .seq acc c, slots := #[] } →
    (∀ h' tk acc' c', (∀ b o, b ∉ S :: wr → s.heap.get? b = some o → h'.get? b = some o) → h'.get? S = some { cls := .type "list", dict := none, data := .seq acc' c', slots := #[] } → acc'.size = n → Fi acc' { s with heap := h', toks := tk } → R (.ok (.ret res)) { s with heap := h', toks := tk }) →
    codeAny (model prog w) A (.builtin "list.extend.loop" ⟨[.ref S, .ref I, res], []⟩) R s := by
  intro k
  induction k with
  | zero =>
    intro i s acc c hk hi hst hS hR
    obtain rfl : i = n := by omega
    refine codeAny_builtin F.entry_extend_loop ?_
    rw [Around.under_plainId F.plain_extend_loop _]
    show wpAny _ A.in1 (pyNext (.ref I) >>= _) _ _ s
    refine wpAny_bind (W.done acc s _ _ hst fun h' tk es st k => ?_)
    exact wpAny_pure (hR h' tk acc c (fun b o hb e => k b o (fun z => hb (List.mem_cons_of_mem _ z)) e) (k S _ W.nS hS) es st)
  | succ k ih =>
    intro i s acc c hk hi hst hS hR
    have hlt : i < n := by omega
    have hsz := W.size _ _ _ hst
    refine codeAny_builtin F.entry_extend_loop ?_
    rw [Around.under_plainId F.plain_extend_loop _]
    show wpAny _ A.in1 (pyNext (.ref I) >>= _) _ _ s
    refine wpAny_bind (W.item i acc s _ _ hlt hst fun v h' tk st k => ?_)
    have hS' := k S _ W.nS hS
    show wpAny _ A.in1 (updateSeq S (·.push v) >>= _) _ _ _
    refine wpAny_bind ?_
    refine wpAny_updateSeq (s := { s with heap := h', toks := tk }) hS' rfl (wpAny_pure ⟨plainId_quiet F.plain_extend_loop _, ?_⟩) (by rw [hsz]; omega) (by show (acc.push v).size ≤ sizeLine + 1; rw [Array.size_push, hsz]; omega)
    refine ih (i + 1) _ (acc.push v) _ (by omega) hlt (W.frame _ _ { s with heap := h', toks := tk } _ tk st (fun b hb o e => (Heap.get?_update_other _ _ (Ne.symm hb)).trans e) (by rw [Heap.size_update]; exact Nat.le_refl _)) (Heap.get?_update_self _ hS' rfl) fun h'' tk' acc' c' k' hS'' es' st' => ?_
    refine hR h'' tk' acc' c' (fun b o hb e => k' b o hb ?_) hS'' es' st'
    exact (Heap.get?_update_other _ _ (fun z : S = b => hb (by rw [z]; exact List.mem_cons_self))).trans (k b o (fun z => hb (List.mem_cons_of_mem _ z)) e)
end
theorem nolen_zip : typeLookup (.type "zip") "__len__" = pure none := by rw [typeLookup_type, builtinLookup_eq_fast]; kernel_rfl
theorem nohint_zip : typeLookup (.type "zip") "__length_hint__" = pure none := by rw [typeLookup_type, builtinLookup_eq_fast]; kernel_rfl
section
variable {prog : Program} {w : World} {A : Around} {E : Value → Shared → Prop} {s : Shared} {I : Addr} {wr : List Addr} {n : Nat} {St : Nat → Array Value → Shared → Prop} {Fi : Array Value → Shared → Prop}
theorem collectA {Q : List Value → Shared → Prop} (W : WalkA prog w A.in1 I s.heap.objs.size wr n St Fi) (hT : ∀ s' : Shared, (∀ b o, s.heap.get? b = some o → s'.heap.get? b = some o) → s'.TypeIs (.ref I) "zip") (hit : ∀ s' : Shared, (∀ b o, s.heap.get? b = some o → s'.heap.get? b = some o) → ∀ (A : Around) (E : Value → Shared → Prop) (Q : Value → Shared → Prop), Q (.ref I) s' → wpAny (model prog w) A (pyIter (.ref I)) Q E s')
    (hne : s.heap.objs.size ≠ I) (hst : ∀ h' tk, (∀ b o, s.heap.get? b = some o → h'.get? b = some o) → h'.objs.size = s.heap.objs.size + 1 → St 0 #[] { s with heap := h', toks := tk }) (hn : n ≤ sizeLine)
    (hQ : ∀ h' tk acc, (∀ b o, b ∉ wr → s.heap.get? b = some o → h'.get? b = some o) → acc.size = n → Fi acc { s with heap := h', toks := tk } → Q acc.toList { s with heap := h', toks := tk }) : wpAny (model prog w) A (collect (.ref I)) Q E s := by
  unfold collect
  refine wpAny_bind (wpAny_runValue (codeAny_builtin F.entry_proto_collect ?_))
  rw [Around.under_plainId F.plain_proto_collect _]
  show wpAny _ A.in1 (newList [] >>= fun l => again (.builtin "list.__iadd__" ⟨[l, .ref I], []⟩)) _ _ s
  refine wpAny_bind (wpAny_newObj_type ?_)
  refine wpAny_pure ⟨plainId_quiet F.plain_list_iadd _, codeAny_builtin F.entry_list_iadd ?_⟩
  rw [Around.under_plainId F.plain_list_iadd _]
  have k0 : ∀ b o, s.heap.get? b = some o → (s.heap.push { cls := .type "list", data := .seq ([] : List Value).toArray }).get? b = some o := fun b o e => Heap.get?_push_of_some _ e
  have ty := hT { s with heap := s.heap.push { cls := .type "list", data := .seq ([] : List Value).toArray } } k0
  show wpAny _ A.in1 (Builtin.List.listExtendWith (.ref s.heap.objs.size) (.ref I) (.ref s.heap.objs.size)) _ _ _
  unfold Builtin.List.listExtendWith
  refine wpAny_bind (wpAny_typeOf ty ?_)
  have h1 : Builtin.List.listSameRef (.ref s.heap.objs.size) (.ref I) = false := by simp [Builtin.List.listSameRef, hne]
  have h2 : (Value.type "zip" == Value.type "list") = false := by decide
  have h3 : (Value.type "zip" == Value.type "tuple") = false := by decide
  simp only [h1, h2, h3, Bool.or_false, Bool.false_eq_true, if_false]
  refine wpAny_bind (hit { s with heap := s.heap.push { cls := .type "list", data := .seq ([] : List Value).toArray } } k0 _ _ _ ?_)
  refine wpAny_bind (wpAny_holding ?_)
  unfold Builtin.List.listLengthHint
  refine wpAny_bind (wpAny_specialOf ty nolen_zip ?_)
  show wpAny _ A.in1 (specialOf (Value.ref I) (Str.ofString "__length_hint__") >>= _) _ _ _
  refine wpAny_bind (wpAny_specialOf ty nohint_zip ?_)
  refine wpAny_pure ?_
  show wpAny _ A.in1 (rule "list.extend.makes-room" >>= fun _ => Builtin.List.listTouch (.ref s.heap.objs.size) >>= fun _ =>
    again (.builtin "list.extend.loop" ⟨[.ref s.heap.objs.size, .ref I, .ref s.heap.objs.size], []⟩)) _ _ _
  refine wpAny_bind (wpAny_rule ?_)
  have hS₁ : (s.heap.push { cls := .type "list", data := .seq ([] : List Value).toArray }).get? s.heap.objs.size = some { cls := .type "list", data := .seq ([] : List Value).toArray } := Heap.get?_push_size _ rfl
  refine wpAny_bind ?_
  show wpAny _ A.in1 (updateSeq s.heap.objs.size (·.push .none) >>= fun _ => updateSeq s.heap.objs.size (·.pop)) _ _ _
  refine wpAny_bind (wpAny_updateSeq hS₁ rfl ?_)
  have hS₂ := Heap.get?_update_self (Obj.mapSeq (·.push Value.none)) hS₁ rfl
  refine wpAny_updateSeq hS₂ rfl ?_
  have hS₃ := Heap.get?_update_self (Obj.mapSeq (·.pop)) hS₂ rfl
  have hne' : ∀ {b o}, s.heap.get? b = some o → b ≠ s.heap.objs.size := fun e => Nat.ne_of_lt (Heap.lt_size e)
  have oth : ∀ b o, s.heap.get? b = some o →
      (((s.heap.push { cls := .type "list", data := .seq ([] : List Value).toArray }).update s.heap.objs.size (Obj.mapSeq (·.push Value.none))).update s.heap.objs.size (Obj.mapSeq (·.pop))).get? b = some o :=
    fun b o e => (Heap.get?_update_other _ _ (Ne.symm (hne' e))).trans ((Heap.get?_update_other _ _ (Ne.symm (hne' e))).trans (k0 b o e))
  refine wpAny_pure ⟨plainId_quiet F.plain_extend_loop _, ext_loopA W hn _ n 0 _ _ _ rfl (Nat.zero_le _) (hst _ s.toks oth (by rw [Heap.size_update, Heap.size_update, Heap.size_push])) hS₃ fun h' tk acc' c' hm hS' es st => ?_⟩
  show wpAny _ A (load s.heap.objs.size >>= _) _ _ { s with heap := h', toks := tk }
  refine wpAny_bind (wpAny_load hS' ?_)
  refine wpAny_pure (hQ h' tk acc' (fun b o hb e => hm b o (fun z => ?_) (oth b o e)) es st)
  rcases List.mem_cons.mp z with z | z
  · exact hne' e z
  · exact hb z
theorem tuple_newA {Q₁ : Value → Shared → Prop} (W : WalkA prog w A.in1.in1 I s.heap.objs.size wr n St Fi) (hT : ∀ s' : Shared, (∀ b o, s.heap.get? b = some o → s'.heap.get? b = some o) → s'.TypeIs (.ref I) "zip") (hit : ∀ s' : Shared, (∀ b o, s.heap.get? b = some o → s'.heap.get? b = some o) → ∀ (A : Around) (E : Value → Shared → Prop) (Q : Value → Shared → Prop), Q (.ref I) s' → wpAny (model prog w) A (pyIter (.ref I)) Q E s')
    (hne : s.heap.objs.size ≠ I) (hst : ∀ h' tk, (∀ b o, s.heap.get? b = some o → h'.get? b = some o) → h'.objs.size = s.heap.objs.size + 1 → St 0 #[] { s with heap := h', toks := tk }) (hn : n ≤ sizeLine)
    (h : ∀ h' tk acc, (∀ b o, b ∉ wr → s.heap.get? b = some o → h'.get? b = some o) → acc.size = n → Fi acc { s with heap := h', toks := tk } → Q₁ (.ref h'.objs.size) { s with heap := h'.push { cls := .type "tuple", data := .seq acc }, toks := tk }) :
    codeAny (model prog w) A (.call (.builtin "tuple.__new__") ⟨[.type "tuple", .ref I], []⟩) (wants Q₁ E) s := by
  refine codeAny_of_tree ?_
  show wpAny _ A.in1 (do checkBuiltinCall "tuple.__new__" ⟨[.type "tuple", .ref I], []⟩; again (.builtin "tuple.__new__" ⟨[.type "tuple", .ref I], []⟩)) _ _ s
  refine wpAny_bind (wpAny_of_eq (F.newCall_tuple_1 _) (wpAny_pure ⟨plainId_quiet F.plain_tuple_new _, codeAny_builtin F.entry_tuple_new ?_⟩))
  rw [Around.under_plainId F.plain_tuple_new _]
  have hsub := sub_tuple_self
  have hinit := init_tuple_lookup
  have hmh := madeHere_tuple
  have hTI := hT s fun _ _ e => e
  wp_walk using wpAny_typeOf hTI, collectA W hT hit hne hst hn
  intro h' tk acc hk es st
  show wpAny _ _ (Builtin.Tuple.tupleExact acc.toList.toArray >>= fun v => ret v) _ _ _
  unfold Builtin.Tuple.tupleExact
  have e : acc.toList.toArray = acc := by simp
  refine wpAny_bind (wpAny_newObj_type ?_ (by rw [e]; show acc.size ≤ sizeLine; rw [es]; exact hn))
  refine wpAny_pure ?_
  rw [e]
  exact h h' tk acc hk es st
theorem call_tupleA {Q : Value → Shared → Prop} (W : WalkA prog w A.in1.in1.in1 I s.heap.objs.size wr n St Fi) (hT : ∀ s' : Shared, (∀ b o, s.heap.get? b = some o → s'.heap.get? b = some o) → s'.TypeIs (.ref I) "zip") (hit : ∀ s' : Shared, (∀ b o, s.heap.get? b = some o → s'.heap.get? b = some o) → ∀ (A : Around) (E : Value → Shared → Prop) (Q : Value → Shared → Prop), Q (.ref I) s' → wpAny (model prog w) A (pyIter (.ref I)) Q E s')
    (hne : s.heap.objs.size ≠ I) (hst : ∀ h' tk, (∀ b o, s.heap.get? b = some o → h'.get? b = some o) → h'.objs.size = s.heap.objs.size + 1 → St 0 #[] { s with heap := h', toks := tk }) (hn : n ≤ sizeLine)
    (hQ : ∀ h' tk acc, (∀ b o, b ∉ wr → s.heap.get? b = some o → h'.get? b = some o) → acc.size = n → Fi acc { s with heap := h', toks := tk } → Q (.ref h'.objs.size) { s with heap := h'.push { cls := .type "tuple", data := .seq acc }, toks := tk }) :
    wpAny (model prog w) A (call (.type "tuple") [.ref I]) Q E s := by
  refine callType_codes (Q₁ := fun obj s₁ => s₁.TypeIs obj "tuple" ∧ Q obj s₁) F.called_tuple (F.typeCall_tuple_1 _) F.entry_object_init ?_ fun obj s₁ h₁ => ?_
  · exact tuple_newA (A := A.in1) W hT hit hne hst hn fun h' tk acc hk es st => ⟨⟨_, Heap.get?_push_size _ rfl, rfl⟩, hQ h' tk acc hk es st⟩
  · exact ⟨h₁.1, F.args_object_init_2 obj _, object_init_meets F.called_tuple.init.lookup F.called_tuple.made (by decide) prog w A.in1 _ s₁ ⟨h₁.1, rfl, h₁.2⟩⟩
end

/-! the zip of three tuples at work -/
def Z3St (z TI TO i1 i2 i3 S a b c : Addr) (xs ys zs : Array Value) (i : Nat) (acc : Array Value) (s : Shared) : Prop :=
  acc.size = i ∧ S < s.heap.objs.size ∧ IsTupOf3 s.heap TI (.ref i1) (.ref i2) (.ref i3) ∧ (s.heap.IsTupleIter i1 a i ∧ s.heap.IsTuple a xs) ∧ (s.heap.IsTupleIter i2 b i ∧ s.heap.IsTuple b ys) ∧ (s.heap.IsTupleIter i3 c i ∧ s.heap.IsTuple c zs) ∧
  ((i = 0 ∧ IsZip s.heap z TI TO .none ∧ ∃ a1 a2 a3, IsTupOf3 s.heap TO a1 a2 a3) ∨ ∃ T f oT, S < T ∧ ZipOut s.heap z TI TO T f ∧ s.heap.get? T = some oT) ∧
  (∀ (j : Nat) (v : Value), acc[j]? = some v → ∃ (T : Addr) (x y u : Value), v = Value.ref T ∧ S < T ∧ xs[j]? = some x ∧ ys[j]? = some y ∧ zs[j]? = some u ∧ IsTupOf3 s.heap T x y u) ∧ ∀ (j k : Nat) (T : Addr), acc[j]? = some (Value.ref T) → acc[k]? = some (Value.ref T) → j = k
def Z3Fi (S : Addr) (xs ys zs : Array Value) (acc : Array Value) (s : Shared) : Prop :=
  (∀ (j : Nat) (v : Value), acc[j]? = some v → ∃ (T : Addr) (x y u : Value), v = Value.ref T ∧ S < T ∧ xs[j]? = some x ∧ ys[j]? = some y ∧ zs[j]? = some u ∧ IsTupOf3 s.heap T x y u) ∧ ∀ (j k : Nat) (T : Addr), acc[j]? = some (Value.ref T) → acc[k]? = some (Value.ref T) → j = k
theorem z3_walk {prog : Program} {w : World} {A : Around} {z TI TO i1 i2 i3 S a b c : Addr} {xs ys zs : Array Value} (hh : A.handled = none) (Z : ZipSep3 z TI TO i1 i2 i3 [i1, a] [i2, b] [i3, c]) (na : a ≠ i1) (nb : b ≠ i2) (nc : c ≠ i3)
    (hS : z < S ∧ TI < S ∧ TO < S ∧ i1 < S ∧ i2 < S ∧ i3 < S ∧ a < S ∧ b < S ∧ c < S) :
    WalkA prog w A z S [z, TO, i1, i2, i3] (min (min xs.size ys.size) zs.size) (Z3St z TI TO i1 i2 i3 S a b c xs ys zs) (Z3Fi S xs ys zs) where
  nS := by
    obtain ⟨h1, h2, h3, h4, h5, h6, _⟩ := hS
    simp only [List.mem_cons, List.not_mem_nil, or_false, not_or]
    exact ⟨Nat.ne_of_gt h1, Nat.ne_of_gt h3, Nat.ne_of_gt h4, Nat.ne_of_gt h5, Nat.ne_of_gt h6⟩
  size := fun i acc s h => h.1
  frame := fun i acc s h' tk st k hle => by
    obtain ⟨h1, h2, h3, h4, h5, h6, h7, h8, h9⟩ := hS
    obtain ⟨e0, lt, hTI, ⟨q1, q1'⟩, ⟨q2, q2'⟩, ⟨q3, q3'⟩, hz, hacc, inj⟩ := st
    have kk : ∀ {b o}, b < S → s.heap.get? b = some o → h'.get? b = some o := fun hb e => k _ (Nat.ne_of_lt hb) _ e
    refine ⟨e0, Nat.lt_of_lt_of_le lt hle, kk h2 hTI, ⟨q1.at fun o e => kk h4 e, q1'.at fun o e => kk h7 e⟩, ⟨q2.at fun o e => kk h5 e, q2'.at fun o e => kk h8 e⟩, ⟨q3.at fun o e => kk h6 e, q3'.at fun o e => kk h9 e⟩, ?_, fun j v hj => ?_, inj⟩
    · rcases hz with ⟨ei, hz, a1, a2, a3, hTO⟩ | ⟨T, f, oT, hlt, hz, hT⟩
      · exact .inl ⟨ei, kk h1 hz, a1, a2, a3, kk h3 hTO⟩
      · exact .inr ⟨T, f, oT, hlt, kk h1 hz, k _ (Nat.ne_of_gt hlt) _ hT⟩
    · obtain ⟨T, x, y, u, ev, hlt, hx, hy, hu, hT⟩ := hacc j v hj
      exact ⟨T, x, y, u, ev, hlt, hx, hy, hu, k _ (Nat.ne_of_gt hlt) _ hT⟩
  item := fun i acc s Q E hi st hQ => by
    obtain ⟨h1, h2, h3, h4, h5, h6, h7, h8, h9⟩ := hS
    obtain ⟨e0, lt, hTI, q1, q2, q3, hz, hacc, inj⟩ := st
    have ne : ∀ {b T}, b < S → S < T → T ≠ b := fun h h' => Nat.ne_of_gt (Nat.lt_trans h h')
    have key : ∀ x1 x2 x3 h' tk, xs[i]? = some x1 → ys[i]? = some x2 → zs[i]? = some x3 → (∃ T f oT, S < T ∧ ZipOut h' z TI TO T f ∧ h'.get? T = some oT) → (h'.IsTupleIter i1 a (i + 1) ∧ h'.IsTuple a xs) → (h'.IsTupleIter i2 b (i + 1) ∧ h'.IsTuple b ys) → (h'.IsTupleIter i3 c (i + 1) ∧ h'.IsTuple c zs) →
        IsTupOf3 h' s.heap.objs.size x1 x2 x3 → (∀ c o, c ≠ z → c ≠ TO → c ≠ i1 → c ≠ i2 → c ≠ i3 → s.heap.get? c = some o → h'.get? c = some o) → Q (some (.ref s.heap.objs.size)) { s with heap := h', toks := tk } := by
      intro x1 x2 x3 h' tk y1 y2 y3 zo d1 d2 d3 hU hk
      refine hQ _ h' tk ⟨by rw [Array.size_push, e0], Nat.lt_trans lt (Heap.lt_size hU), hk _ _ Z.TIz Z.TITO Z.TIi1 Z.TIi2 Z.TIi3 hTI, d1, d2, d3, .inr zo, fun j v hj => ?_, fun j k T hj hk' => ?_⟩ fun b o hb e => ?_
      · rw [Array.getElem?_push] at hj
        split at hj
        · rename_i ej
          cases hj
          rw [e0] at ej
          subst ej
          exact ⟨_, x1, x2, x3, rfl, lt, y1, y2, y3, hU⟩
        · obtain ⟨T, x, y, u, ev, hlt, hx, hy, hu, hT⟩ := hacc j v hj
          exact ⟨T, x, y, u, ev, hlt, hx, hy, hu, hk _ _ (ne h1 hlt) (ne h3 hlt) (ne h4 hlt) (ne h5 hlt) (ne h6 hlt) hT⟩
      · have old : ∀ j, acc[j]? = some (Value.ref s.heap.objs.size) → False := fun j hj => by
          obtain ⟨T, x, y, u, ev, hlt, hx, hy, hu, hT⟩ := hacc j _ hj
          cases ev
          exact Nat.lt_irrefl _ (Heap.lt_size hT)
        rw [Array.getElem?_push] at hj hk'
        split at hj
        · split at hk'
          · omega
          · cases hj; exact (old _ hk').elim
        · split at hk'
          · cases hk'; exact (old _ hj).elim
          · exact inj j k T hj hk'
      · simp only [List.mem_cons, List.not_mem_nil, or_false, not_or] at hb
        exact hk b o hb.1 hb.2.1 hb.2.2.1 hb.2.2.2.1 hb.2.2.2.2 e
    have g1 : i < xs.size := by omega
    have g2 : i < ys.size := by omega
    have g3 : i < zs.size := by omega
    have D1 := Draws.tuple (prog := prog) (w := w) (A := A.in1) hh i1 a na xs
    have D2 := Draws.tuple (prog := prog) (w := w) (A := A.in1) hh i2 b nb ys
    have D3 := Draws.tuple (prog := prog) (w := w) (A := A.in1) hh i3 c nc zs
    rcases hz with ⟨ei, hz, a1, a2, a3, hTO⟩ | ⟨T, f, oT, hlt, hz, hT⟩
    · refine wpAny_pyNext_zipD3_item Z D1 D2 D3 hz hTI hTO q1 q2 q3 g1 g2 g3 fun x1 x2 x3 h' tk y1 y2 y3 b1 b2 d1 d2 d3 b5 b6 hk => ?_
      exact key x1 x2 x3 h' tk y1 y2 y3 ⟨s.heap.objs.size, false, _, lt, b1, b5⟩ d1 d2 d3 b5 hk
    · refine z3_nextItem Z D1 D2 D3 hz hT hTI q1 q2 q3 g1 g2 g3 fun x1 x2 x3 h' tk y1 y2 y3 b1 d1 d2 d3 b5 hk => ?_
      exact key x1 x2 x3 h' tk y1 y2 y3 ⟨T, true, oT, hlt, b1, hk _ _ (ne h1 hlt) (ne h4 hlt) (ne h5 hlt) (ne h6 hlt) hT⟩ d1 d2 d3 b5 fun c o c0 _ c1 c2 c3 e => hk c o c0 c1 c2 c3 e
  done := fun acc s Q E st hQ => by
    obtain ⟨h1, h2, h3, h4, h5, h6, h7, h8, h9⟩ := hS
    obtain ⟨e0, lt, hTI, q1, q2, q3, hz, hacc, inj⟩ := st
    have ne : ∀ {b T}, b < S → S < T → T ≠ b := fun h h' => Nat.ne_of_gt (Nat.lt_trans h h')
    have D1 := Draws.tuple (prog := prog) (w := w) (A := A.in1) hh i1 a na xs
    have D2 := Draws.tuple (prog := prog) (w := w) (A := A.in1) hh i2 b nb ys
    have D3 := Draws.tuple (prog := prog) (w := w) (A := A.in1) hh i3 c nc zs
    have key : ∀ h' tk, (∀ c o, c ≠ z → c ≠ TO → c ≠ i1 → c ≠ i2 → c ≠ i3 → s.heap.get? c = some o → h'.get? c = some o) → Q none { s with heap := h', toks := tk } := by
      intro h' tk hk
      refine hQ h' tk e0 ⟨fun j v hj => ?_, inj⟩ fun b o hb e => ?_
      · obtain ⟨T, x, y, u, ev, hlt, hx, hy, hu, hT⟩ := hacc j v hj
        exact ⟨T, x, y, u, ev, hlt, hx, hy, hu, hk _ _ (ne h1 hlt) (ne h3 hlt) (ne h4 hlt) (ne h5 hlt) (ne h6 hlt) hT⟩
      · simp only [List.mem_cons, List.not_mem_nil, or_false, not_or] at hb
        exact hk b o hb.1 hb.2.1 hb.2.2.1 hb.2.2.2.1 hb.2.2.2.2 e
    rcases hz with ⟨ei, hz, a1, a2, a3, hTO⟩ | ⟨T, f, oT, hlt, hz, hT⟩
    · exact wpAny_pyNext_zipD3_end Z D1 D2 D3 hz hTI hTO q1 q2 q3 (by omega) (by omega) (by omega) (by omega) key
    · exact z3_nextEnd Z D1 D2 D3 hz hT hTI q1 q2 q3 (by omega) (by omega) (by omega) (by omega) fun h' tk hk => key h' tk fun c o c0 _ c1 c2 c3 e => hk c o c0 c1 c2 c3 e
end Fs

set_option Elab.async false
set_option linter.all false
set_option maxRecDepth 100000
set_option maxHeartbeats 2000000
set_option autoImplicit false
namespace Fs
open PySem PySem.Spec PyProof.Rows L2

/-! many objects laid at once -/
def laysF : Hp → List (Addr × HO) → Hp
  | H, [] => H
  | H, p :: L => laysF (upd H p.1 p.2) L
def Chain : Hp → List (Addr × HO) → Prop
  | _, [] => True
  | H, p :: L => H p.1 = none ∧ Chain (upd H p.1 p.2) L
theorem laysF_out : ∀ {L : List (Addr × HO)} {H : Hp} {b : Addr}, (∀ p ∈ L, p.1 ≠ b) → laysF H L b = H b
  | [], _, _, _ => rfl
  | p :: L, H, b, h => (laysF_out fun q hq => h q (List.mem_cons_of_mem _ hq)).trans (upd_ne (Ne.symm (h p List.mem_cons_self)))
theorem laysF_in : ∀ {L : List (Addr × HO)} {H : Hp} {b : Addr} {o : HO}, laysF H L b = some o → H b = some o ∨ (b, o) ∈ L
  | [], _, _, _, h => .inl h
  | p :: L, H, b, o, h => by
    rcases laysF_in (L := L) h with e | e
    · by_cases hb : b = p.1
      · subst hb; rw [upd_same] at e; cases e; exact .inr List.mem_cons_self
      · rw [upd_ne hb] at e; exact .inl e
    · exact .inr (List.mem_cons_of_mem _ e)
theorem chain_of : ∀ {L : List (Addr × HO)} {H : Hp}, (L.map (·.1)).Nodup → (∀ p ∈ L, H p.1 = none) → Chain H L
  | [], _, _, _ => trivial
  | p :: L, H, n, h => by
    rw [List.map_cons, List.nodup_cons] at n
    refine ⟨h p List.mem_cons_self, chain_of n.2 fun q hq => ?_⟩
    rw [upd_ne (fun e => n.1 (by rw [← e]; exact List.mem_map_of_mem hq))]
    exact h q (List.mem_cons_of_mem _ hq)
theorem inv_ext {X : Cx} {pins : List (Addr × Obj)} {σ : L2.St} {H H' : Hp} {s : Shared} {h' : Heap} {t' : Nat} (I : Inv X pins σ H s) (k : ∀ b u, s.heap.get? b = some u → h'.get? b = some u)
    (p1 : ∀ b, b < s.heap.objs.size → H' b = H b) (p2 : ∀ b o, H' b = some o → H b = some o ∨ ObjOk X.prog X.w H' h' b o) : Inv X pins σ H' { s with heap := h', toks := t' } := by
  have up : ∀ b o, H b = some o → H' b = some o := fun b o e => by rw [p1 b (I.hok b o e).lt]; exact e
  refine I.un ⟨fun b u q _ _ _ => k b u q, fun b u q _ _ _ => ⟨u.slots, k b u q⟩, fun b u q n _ => by rw [p1 b (Heap.lt_size q)]; exact n, fun b u q _ => ⟨u, k b u q⟩, fun b xs q => up b _ q, fun b u xs q => up b _ q, fun b ps q => ⟨#[], by rw [up b _ q]; simp⟩⟩ fun b o e => ?_
  rcases p2 b o e with q | q
  · exact (I.hok b o q).stay (fun c v _ q => k c v q) (fun c q => up c _ q) fun c xs q => up c _ q
  · exact q

def z3 : List V → List V → List V → List (List V)
  | x :: xs, y :: ys, z :: zs => [x, y, z] :: z3 xs ys zs
  | _, _, _ => []
theorem z3_len : ∀ (xs ys zs : List V), (z3 xs ys zs).length = min (min xs.length ys.length) zs.length
  | [], _, _ => by simp [z3]
  | _ :: _, [], _ => by simp [z3]
  | _ :: _, _ :: _, [] => by simp [z3]
  | x :: xs, y :: ys, z :: zs => by have := z3_len xs ys zs; simp [z3]; omega
theorem z3_get : ∀ {xs ys zs : List V} {i : Nat} {t : List V}, (z3 xs ys zs)[i]? = some t → ∃ x y z, xs[i]? = some x ∧ ys[i]? = some y ∧ zs[i]? = some z ∧ t = [x, y, z]
  | [], _, _, _, _, h => by simp [z3] at h
  | _ :: _, [], _, _, _, h => by simp [z3] at h
  | _ :: _, _ :: _, [], _, _, h => by simp [z3] at h
  | x :: xs, y :: ys, z :: zs, 0, t, h => by simp [z3] at h; exact ⟨x, y, z, rfl, rfl, rfl, h.symm⟩
  | x :: xs, y :: ys, z :: zs, i + 1, t, h => by
    obtain ⟨a, b, c, h1, h2, h3, h4⟩ := z3_get (xs := xs) (ys := ys) (zs := zs) (i := i) (t := t) (by simpa [z3] using h)
    exact ⟨a, b, c, by simpa using h1, by simpa using h2, by simpa using h3, h4⟩
def adr : Value → Addr
  | .ref a => a
  | _ => 0
def zL (acc : List Value) (ts : List (List V)) : List (Addr × HO) := List.zipWith (fun v t => (adr v, HO.tup t)) acc ts
theorem zL_vals : ∀ {acc : List Value} {ts : List (List V)}, acc.length = ts.length → (∀ v ∈ acc, ∃ T, v = Value.ref T) → Vals ((zL acc ts).map fun p => V.ref p.1) acc
  | [], [], _, _ => .nil
  | [], _ :: _, h, _ => by cases h
  | _ :: _, [], h, _ => by cases h
  | v :: acc, t :: ts, h, hv => by
    obtain ⟨T, rfl⟩ := hv v List.mem_cons_self
    exact .cons rfl (zL_vals (Nat.succ.inj h) fun v h => hv v (List.mem_cons_of_mem _ h))
theorem zL_tups : ∀ {acc : List Value} {ts : List (List V)}, acc.length = ts.length → (zL acc ts).map (·.2) = ts.map HO.tup
  | [], [], _ => rfl
  | [], _ :: _, h => by cases h
  | _ :: _, [], h => by cases h
  | v :: acc, t :: ts, h => by
    show _ :: (zL acc ts).map (·.2) = _ :: ts.map HO.tup
    rw [zL_tups (Nat.succ.inj h)]
def tTupZ3 (K : PySem.W.Frag) (ta : TA) : TE := fun σ H Q => ta σ H fun vs H1 => ∃ (a b c : Addr) (xs ys zs : List V), vs = [.ref a, .ref b, .ref c] ∧ SqT K H1 a xs ∧ SqT K H1 b ys ∧ SqT K H1 c zs ∧
  ∀ (L : List (Addr × HO)) (q : Addr), L.map (·.2) = (z3 xs ys zs).map .tup → Chain H1 L → laysF H1 L q = none → Q (.ref q) (upd (laysF H1 L) q (.tup (L.map fun p => .ref p.1)))
section
variable {X : Cx}
theorem pe_tupZip3 {e1 e2 e3 : Expr} {ta : TA} {p p2 pos pos2 : Pos} (hc : X.calm = true) (hg : Gl X "tuple") (hm : X.mg "tuple" = none) (hg2 : Gl X "zip") (hm2 : X.mg "zip" = none) (ha : PA X [e1, e2, e3] ta)
    (hs : starEach [e1, e2, e3] X.env = (false, eval e1 X.env) :: starEach [e2, e3] X.env := by rfl) (hpl : (backTo pos2 (starEach [e2, e3] X.env)).any (·.1) = false := by rfl)
    (hs2 : starEach [.Call (.Name "zip" p2) [e1, e2, e3] [] pos2] X.env = (false, eval (.Call (.Name "zip" p2) [e1, e2, e3] [] pos2) X.env) :: starEach [] X.env := by rfl) :
    PE X (.Call (.Name "tuple" p) [.Call (.Name "zip" p2) [e1, e2, e3] [] pos2] [] pos) (tTupZ3 X.K ta) := by
  refine ⟨fun pins s σ H Q I h => ?_⟩
  refine Call_ (ld_blt I hg hm boot_tuple (PyProof.Rows.callWith_type1 (args_cons (Call_ (ld_blt I hg2 hm2 PyProof.Rows.boot_zip (PyProof.Rows.callWith_type1 (thn (ha.run pos2 pins s σ H _ I h) fun us s1 ⟨vs, H1, I1, r1, q1⟩ => ?_) hs hpl))) hs2) hs2 rfl))
  obtain ⟨a, b, c, xs, ys, zs, ev, hx, hy, hz, q1⟩ := q1
  subst ev
  cases r1 with
  | cons ra rr =>
  cases rr with
  | cons rb rr =>
  cases rr with
  | cons rc rr =>
  cases rr
  cases ra
  cases rb
  cases rc
  obtain ⟨i1, v1, t1, l1⟩ := I1.tuple hx
  obtain ⟨i2, v2, t2, l2⟩ := I1.tuple hy
  obtain ⟨i3, v3, t3, l3⟩ := I1.tuple hz
  have m1 : a < s1.heap.objs.size := t1.lt
  have m2 : b < s1.heap.objs.size := t2.lt
  have m3 : c < s1.heap.objs.size := t3.lt
  refine zip_begins3 (begins_tuple a i1.toArray) (begins_tuple b i2.toArray) (begins_tuple c i3.toArray) t1 t2 t3 fun h1 hZ hTI hTO g1 g2 g3 hsz hk => args_nil ?_
  have N := s1.heap.objs.size
  have hsep := zip_sep3 (N := s1.heap.objs.size) (fp1 := [a]) (fp2 := [b]) (fp3 := [c]) (fun x hx => by rw [List.mem_singleton.mp hx]; exact m1) (fun x hx => by rw [List.mem_singleton.mp hx]; exact m2) (fun x hx => by rw [List.mem_singleton.mp hx]; exact m3)
  have lt1 : ∀ k, k < 6 → s1.heap.objs.size + k < h1.objs.size := fun k hk => by rw [hsz]; omega
  have lt0 : ∀ x, x < s1.heap.objs.size → x < h1.objs.size := fun x hx => by rw [hsz]; omega
  have tI : ∀ (s' : Shared), (∀ b o, h1.get? b = some o → s'.heap.get? b = some o) → IsZip s'.heap (s1.heap.objs.size + 5) (s1.heap.objs.size + 3) (s1.heap.objs.size + 4) .none := fun s' k => k _ _ hZ
  have ni : ∀ {x : Addr}, x < s1.heap.objs.size → ∀ k, x ≠ s1.heap.objs.size + k := fun hx k => Nat.ne_of_lt (Nat.lt_of_lt_of_le hx (Nat.le_add_right _ _))
  have hS : s1.heap.objs.size + 5 < h1.objs.size ∧ s1.heap.objs.size + 3 < h1.objs.size ∧ s1.heap.objs.size + 4 < h1.objs.size ∧ s1.heap.objs.size < h1.objs.size ∧ s1.heap.objs.size + 1 < h1.objs.size ∧ s1.heap.objs.size + 2 < h1.objs.size ∧ a < h1.objs.size ∧ b < h1.objs.size ∧ c < h1.objs.size :=
    ⟨lt1 5 (by omega), lt1 3 (by omega), lt1 4 (by omega), by rw [hsz]; exact Nat.lt_add_of_pos_right (by omega), lt1 1 (by omega), lt1 2 (by omega), lt0 _ m1, lt0 _ m2, lt0 _ m3⟩
  have W := z3_walk (prog := X.prog) (w := X.w) (A := X.A.in1.in1.in1) (z := s1.heap.objs.size + 5) (TI := s1.heap.objs.size + 3) (TO := s1.heap.objs.size + 4) (i1 := s1.heap.objs.size) (i2 := s1.heap.objs.size + 1) (i3 := s1.heap.objs.size + 2) (S := h1.objs.size) (a := a) (b := b) (c := c) (xs := i1.toArray) (ys := i2.toArray) (zs := i3.toArray) (I1.ok.hd hc) hsep (Nat.ne_of_lt m1) (ni m2 1) (ni m3 2) hS
  have hn : min (min i1.toArray.size i2.toArray.size) i3.toArray.size ≤ sizeLine := by
    have := v1.length
    have e1 : i1.toArray.size = i1.length := List.size_toArray
    omega
  refine call_tupleA (s := { s1 with heap := h1 }) W (fun s' k => ⟨_, tI s' k, rfl⟩) (fun s' k A E Q q => wpAny_pyIter_zip (tI s' k) q) (Nat.ne_of_gt (lt1 5 (by omega))) (fun h' tk k hs' => ?_) hn fun h' tk acc hk' hsa fi => ?_
  · refine ⟨rfl, ?_, k _ _ hTI, ⟨⟨_, k _ _ g1, rfl, rfl⟩, ?_⟩, ⟨⟨_, k _ _ g2, rfl, rfl⟩, ?_⟩, ⟨⟨_, k _ _ g3, rfl, rfl⟩, ?_⟩, .inl ⟨rfl, k _ _ hZ, _, _, _, k _ _ hTO⟩, fun j v hj => by simp at hj, fun j k T hj => by simp at hj⟩
    · show h1.objs.size < h'.objs.size; rw [hs']; exact Nat.lt_succ_self _
    · exact IsTup.keeps t1 fun b o e => k _ _ (hk b o e)
    · exact IsTup.keeps t2 fun b o e => k _ _ (hk b o e)
    · exact IsTup.keeps t3 fun b o e => k _ _ (hk b o e)
  obtain ⟨f1, f2⟩ := fi
  have keep : ∀ b o, s1.heap.get? b = some o → (h'.push { cls := .type "tuple", data := .seq acc }).get? b = some o := fun b o e => by
    refine Heap.get?_push_of_some _ (hk' b o (fun z => ?_) (hk b o e))
    have hb : b < s1.heap.objs.size := Heap.lt_size e
    simp only [List.mem_cons, List.not_mem_nil, or_false] at z
    rcases z with z | z | z | z | z
    · exact ni hb 5 z
    · exact ni hb 4 z
    · exact ni hb 0 z
    · exact ni hb 1 z
    · exact ni hb 2 z
  have hlen : acc.toList.length = (z3 xs ys zs).length := by
    rw [z3_len, Array.length_toList, hsa, v1.length, v2.length, v3.length, List.size_toArray, List.size_toArray, List.size_toArray]
  have big : s1.heap.objs.size ≤ h'.objs.size := by
    have ne : ∀ (n k : Nat), k ≠ 3 → n + 3 ≠ n + k := fun n k h => by omega
    refine Nat.le_of_lt (Nat.lt_of_le_of_lt (Nat.le_add_right _ 3) (Heap.lt_size (hk' (s1.heap.objs.size + 3) _ (fun z => ?_) hTI)))
    simp only [List.mem_cons, List.not_mem_nil, or_false] at z
    rcases z with z | z | z | z | z
    · exact ne _ 5 (by decide) z
    · exact ne _ 4 (by decide) z
    · exact ne _ 0 (by decide) z
    · exact ne _ 1 (by decide) z
    · exact ne _ 2 (by decide) z
  -- the list of what was laid
  have at_ : ∀ (j : Nat) p, (zL acc.toList (z3 xs ys zs))[j]? = some p → ∃ (T : Addr) (x y u : V), acc[j]? = some (Value.ref T) ∧ p = (T, .tup [x, y, u]) ∧ h1.objs.size < T ∧ ∃ its, Vals [x, y, u] its ∧ IsTup h' T its.toArray := by
    intro j p hj
    unfold zL at hj
    rw [List.getElem?_zipWith] at hj
    split at hj
    · rename_i v t hv ht
      cases hj
      obtain ⟨x, y, u, e1, e2, e3, rfl⟩ := z3_get ht
      obtain ⟨T, x', y', u', rfl, hlt, d1, d2, d3, hT⟩ := f1 j v (by rw [← Array.getElem?_toList]; exact hv)
      obtain ⟨w1, c1, r1⟩ := v1.get e1
      obtain ⟨w2, c2, r2⟩ := v2.get e2
      obtain ⟨w3, c3, r3⟩ := v3.get e3
      rw [List.getElem?_toArray] at d1 d2 d3
      rw [c1] at d1; cases d1
      rw [c2] at d2; cases d2
      rw [c3] at d3; cases d3
      exact ⟨T, x, y, u, by rw [← Array.getElem?_toList]; exact hv, rfl, hlt, _, .cons r1 (.cons r2 (.cons r3 .nil)), ⟨_, hT, rfl, _, rfl⟩⟩
    · cases hj
  have mem : ∀ p ∈ zL acc.toList (z3 xs ys zs), ∃ (j : Nat) (T : Addr) (x y u : V), acc[j]? = some (Value.ref T) ∧ p = (T, .tup [x, y, u]) ∧ h1.objs.size < T ∧ ∃ its, Vals [x, y, u] its ∧ IsTup h' T its.toArray := fun p hp =>
    let ⟨j, hj⟩ := List.mem_iff_getElem?.mp hp
    ⟨j, at_ j p hj⟩
  have nd : ((zL acc.toList (z3 xs ys zs)).map (·.1)).Nodup := by
    rw [List.Nodup, List.pairwise_iff_getElem]
    intro i j hi hj hij e
    rw [List.length_map] at hi hj
    rw [List.getElem_map, List.getElem_map] at e
    obtain ⟨T, _, _, _, a1, e1, _⟩ := at_ i _ (List.getElem?_eq_getElem hi)
    obtain ⟨T', _, _, _, a2, e2, _⟩ := at_ j _ (List.getElem?_eq_getElem hj)
    rw [e1, e2] at e
    obtain rfl : T = T' := e
    have := f2 i j T a1 a2
    omega
  have fresh : ∀ p ∈ zL acc.toList (z3 xs ys zs), s1.heap.objs.size ≤ p.1 := fun p hp => by
    obtain ⟨j, T, x, y, u, _, rfl, hlt, _⟩ := mem p hp
    exact Nat.le_of_lt (Nat.lt_trans (by rw [hsz]; exact Nat.lt_add_of_pos_right (by omega)) hlt)
  have hch : Chain H1 (zL acc.toList (z3 xs ys zs)) := chain_of nd fun p hp => I1.hok.fresh (fresh p hp)
  have qout : ∀ p ∈ zL acc.toList (z3 xs ys zs), p.1 ≠ h'.objs.size := fun p hp => by
    obtain ⟨j, T, x, y, u, _, rfl, hlt, its, _, hT⟩ := mem p hp
    exact Nat.ne_of_lt hT.lt
  have qn : laysF H1 (zL acc.toList (z3 xs ys zs)) h'.objs.size = none := by rw [laysF_out qout]; exact I1.hok.fresh big
  have all_ref : ∀ v ∈ acc.toList, ∃ T, v = Value.ref T := fun v hv => by
    obtain ⟨j, hj⟩ := List.mem_iff_getElem?.mp hv
    obtain ⟨T, x, y, u, e, _⟩ := f1 j v (by rw [← Array.getElem?_toList]; exact hj)
    exact ⟨T, e⟩
  refine ⟨.ref h'.objs.size, upd (laysF H1 (zL acc.toList (z3 xs ys zs))) h'.objs.size (.tup ((zL acc.toList (z3 xs ys zs)).map fun p => .ref p.1)), ?_, rfl, q1 _ _ ?_ hch qn⟩
  · have := inv_ext (H' := upd (laysF H1 (zL acc.toList (z3 xs ys zs))) h'.objs.size (.tup ((zL acc.toList (z3 xs ys zs)).map fun p => .ref p.1))) (t' := tk) I1 keep ?_ ?_
    · exact this
    · intro b hb
      rw [upd_ne (Nat.ne_of_lt (Nat.lt_of_lt_of_le hb big)), laysF_out fun p hp => Nat.ne_of_gt (Nat.lt_of_lt_of_le hb (fresh p hp))]
    · intro b o e
      by_cases hb : b = h'.objs.size
      · subst hb
        rw [upd_same] at e
        cases e
        refine .inr ⟨?_, acc.toList, zL_vals hlen all_ref, ⟨_, Heap.get?_push_size _ rfl, rfl, 0, by rw [Array.toArray_toList]⟩⟩
        rw [List.length_map]
        unfold zL
        rw [List.length_zipWith, ← hlen, Nat.min_self, Array.length_toList, hsa]
        exact hn
      · rw [upd_ne hb] at e
        rcases laysF_in e with e | e
        · exact .inl e
        · obtain ⟨j, T, x, y, u, _, ep, hlt, its, hv, hT⟩ := mem _ e
          cases ep
          exact .inr ⟨show 3 ≤ sizeLine by size_fits, its, hv, hT.keeps fun b o e => Heap.get?_push_of_some _ e⟩
  · exact zL_tups hlen
end
end Fs

set_option Elab.async false
set_option linter.all false
set_option maxRecDepth 100000
set_option maxHeartbeats 2000000
set_option autoImplicit false
namespace Fs
open PySem PySem.Spec PyProof.Rows L2

def zip3 : List D → List D → List D → List D
  | x :: xs, y :: ys, z :: zs => .tuple [x, y, z] :: zip3 xs ys zs
  | _, _, _ => []
def dZip3 (fs : DEs) : DE := fun env => (fs env).bind fun ds => match ds with
  | [.tuple a, .tuple b, .tuple c] => .ret (.tuple (zip3 a b c))
  | _ => .bad
theorem lays_ok {K : PySem.W.Frag} {dr : Dr} : ∀ {L : List (Addr × HO)} {ds : List D} {F H : Hp}, Stt dr F H → Chain H L → Paired (fun (p : Addr × HO) (d : D) => ∃ vs es, p.2 = .tup vs ∧ DpAll K F vs es ∧ d = .tuple es) L ds →
    ∃ F', Fs.Step dr F H F' (laysF H L) ∧ Stt dr F' (laysF H L) ∧ DpAll K F' (L.map fun p => V.ref p.1) ds
  | [], _, F, H, s, _, .nil => ⟨F, .refl, s, .nil⟩
  | p :: L, _, F, H, s, c, .cons (b := d) ⟨vs, es, e, da, ed⟩ rest => by
    obtain ⟨S1, T1⟩ := lay s c.1 p.2
    obtain ⟨F', S2, T2, dd⟩ := lays_ok T1 c.2 (L2.Paired.mapP rest fun q d ⟨vs, es, e, da, ed⟩ => ⟨vs, es, e, dpa_up S1.up _ _ da, ed⟩)
    refine ⟨F', S1.trans S2 T2, T2, .cons ?_ dd⟩
    subst ed
    exact .tup (.inl (.inl (S2.up _ _ (by rw [← e]; exact upd_same)))) (dpa_up (S1.trans S2 T2).up _ _ da)
theorem z3_pair {K : PySem.W.Frag} {F : Hp} : ∀ {xs ys zs : List V} {as bs cs : List D} {L : List (Addr × HO)}, DpAll K F xs as → DpAll K F ys bs → DpAll K F zs cs → L.map (·.2) = (z3 xs ys zs).map HO.tup →
    Paired (fun (p : Addr × HO) (d : D) => ∃ vs es, p.2 = .tup vs ∧ DpAll K F vs es ∧ d = .tuple es) L (zip3 as bs cs) := by
  intro xs
  induction xs with
  | nil => intro ys zs as bs cs L h1 h2 h3 e; cases h1; simp [z3] at e; subst e; simp [zip3]; exact .nil
  | cons x xs ih =>
    intro ys zs as bs cs L h1 h2 h3 e
    cases h1 with
    | cons a1 h1 =>
      cases h2 with
      | nil => simp [z3] at e; subst e; simp [zip3]; exact .nil
      | cons a2 h2 =>
        cases h3 with
        | nil => simp [z3] at e; subst e; simp [zip3]; exact .nil
        | cons a3 h3 =>
          cases L with
          | nil => simp [z3] at e
          | cons p L =>
            simp only [z3, List.map_cons, List.cons.injEq] at e
            exact .cons ⟨_, _, e.1, .cons a1 (.cons a2 (.cons a3 .nil)), rfl⟩ (ih h1 h2 h3 e.2)
section
variable {X : Cx} {fs : DEs}
theorem e_zip3t {e1 e2 e3 : Expr} {p p2 pos pos2 : Pos} (hc : X.calm = true) (hg : Gl X "tuple") (hm : X.mg "tuple" = none) (hg2 : Gl X "zip") (hm2 : X.mg "zip" = none) (ha : PA X [e1, e2, e3] (tA X.K fs))
    (hs : starEach [e1, e2, e3] X.env = (false, eval e1 X.env) :: starEach [e2, e3] X.env := by rfl) (hpl : (backTo pos2 (starEach [e2, e3] X.env)).any (·.1) = false := by rfl)
    (hs2 : starEach [.Call (.Name "zip" p2) [e1, e2, e3] [] pos2] X.env = (false, eval (.Call (.Name "zip" p2) [e1, e2, e3] [] pos2) X.env) :: starEach [] X.env := by rfl) :
    PE X (.Call (.Name "tuple" p) [.Call (.Name "zip" p2) [e1, e2, e3] [] pos2] [] pos) (tE X.K (dZip3 fs)) :=
  pe_imp (pe_tupZip3 hc hg hm hg2 hm2 ha hs hpl hs2) fun σ H Q ⟨dr, B, F, env, s, r, q⟩ => ⟨dr, B, F, env, s, r, Cm.All.mono (by
    intro ds k vs F' H' S' T' rv
    split at k
    · cases rv with
      | cons r1 rv =>
      cases rv with
      | cons r2 rv =>
      cases rv with
      | cons r3 rv =>
      cases rv
      obtain ⟨p1, v1, rfl, h1, h1'⟩ := bp_tup (.r (H := H') r1)
      obtain ⟨p2, v2, rfl, h2, h2'⟩ := bp_tup (.r (H := H') r2)
      obtain ⟨p3, v3, rfl, h3, h3'⟩ := bp_tup (.r (H := H') r3)
      refine ⟨p1, p2, p3, v1, v2, v3, rfl, sqt_up T'.sub h1, sqt_up T'.sub h2, sqt_up T'.sub h3, fun L q e ch qn => ?_⟩
      obtain ⟨F2, S2, T2, dd⟩ := lays_ok T' ch (z3_pair h1' h2' h3' e)
      obtain ⟨S3, T3⟩ := lay T2 qn (.tup (L.map fun p => .ref p.1))
      exact k _ _ _ ((S'.trans S2 T2).trans S3 T3) T3 (.dp (.tup (.inl (.inl upd_same)) (dpa_up S3.up _ _ dd)))
    · exact k.elim) (Cm.all_bind.mp q)⟩
end
end Fs

set_option Elab.async false
set_option linter.all false
set_option maxRecDepth 100000
set_option maxHeartbeats 2000000
set_option autoImplicit false
namespace Fs
open PySem PySem.Spec PyProof.Rows L2

/-! ### the module's constants -/
def intsOf : List Value → Option (List Int)
  | [] => some []
  | .int i _ :: r => (intsOf r).map (i :: ·)
  | _ => none
theorem intsOf_vals : ∀ {us : List Value} {ns : List Int}, intsOf us = some ns → Vals (ns.map V.int) us
  | [], ns, h => by cases h; exact .nil
  | .int i t :: r, ns, h => by
    unfold intsOf at h
    cases q : intsOf r with
    | none => rw [q] at h; cases h
    | some ms => rw [q] at h; cases h; exact .cons ⟨t, rfl⟩ (intsOf_vals q)
theorem cst_int {K : PySem.W.Frag} {mg : Str → Option Value} {x : Str} {i : Int} {t : Tok} (m : mg x = some (.int i t)) : CstAt K mg x (.int i) := ⟨.int i, _, m, ⟨t, rfl⟩, fun F => .int i⟩
theorem cst_tupI {K : PySem.W.Frag} {mg : Str → Option Value} {x : Str} {a : Addr} {od : Option Addr} {its : Array Value} {n : Nat} {sl : Array (Option Value)} {ns : List Int} (m : mg x = some (.ref a)) (l : K.lookup a = some ⟨.type "tuple", od, .seq its n, sl⟩) (h : intsOf its.toList = some ns)
    (hl : ns.length ≤ 1000 := by decide) : CstAt K mg x (.tuple (ns.map .int)) :=
  have v := intsOf_vals h
  ⟨.ref a, _, m, rfl, fun F => .tup (.inr ⟨_, its, n, l, rfl, rfl, by
    have h2 : its.size = ns.length := by have := v.length; simpa using this.symm
    rw [h2]
    exact Nat.le_trans hl (by decide), v⟩) (ints_dpa ns)⟩
/-- loops by a condition: at most so many rounds are told of -/
def FUEL : Nat := 1000000
/-- what a law promises -/
def spLaw (K : PySem.W.Frag) : Sp := fun vs H Q _ => ∃ (a : Addr) (ns : List Int), vs = [.ref a] ∧ SqL K H a (ns.map V.int) ∧ ns.length ≤ 63 ∧ ∀ H', Q (.bl true) H'
def onlyAt (H : Hp) (a : Addr) : Hp := fun b => if b = a then H b else none
theorem onlyAt_self (H : Hp) (a : Addr) : onlyAt H a a = H a := if_pos rfl
theorem onlyAt_le {H : Hp} {a b : Addr} {o : HO} (e : onlyAt H a b = some o) : H b = some o := by
  unfold onlyAt at e
  split at e
  · exact e
  · cases e
theorem onlyAt_none {H : Hp} {a b : Addr} (e : H b = none) : onlyAt H a b = none := by
  unfold onlyAt
  split
  · exact e
  · rfl
theorem law_start {K : PySem.W.Frag} {N : List Str} {H H' : Hp} {dr : Dr} {a : Addr} {ns : List Int} {D : Ends} {s : DS} {k : Nat} (hS : SqL K H a (ns.map V.int)) (q : ∀ H', D.rt (.bl true) H') (hN : N.length = k + 2)
    (kp : Kept H H') (dk : DrawOk dr H') (na : H dr.a = none) (nl : H dr.l = none) (nc : H dr.c = none)
    (math : (s ([.val (.list (ns.map .int)), .val drwT] ++ List.replicate k .no)).All (fun o => o = .rt (.bool true))) :
    tS K s D ((L2.start N [V.ref a]).set 1 (some (V.ref dr.a))) H' := by
  have T : Stt dr (onlyAt H a) H' := by
    refine ⟨fun b o e => kp _ _ (onlyAt_le e), dk, fun b hb => onlyAt_none ?_⟩
    rcases hb with rfl | rfl | rfl
    · exact na
    · exact nl
    · exact nc
  have hSF : SqL K (onlyAt H a) a (ns.map V.int) := by
    rcases hS with h | h
    · refine .inl ?_
      rcases h with h | ⟨o, h⟩
      · exact .inl ((onlyAt_self H a).trans h)
      · exact .inr ⟨o, (onlyAt_self H a).trans h⟩
    · exact .inr h
  have ev : (L2.start N [V.ref a]).set 1 (some (V.ref dr.a)) = L2.start N [V.ref a, V.ref dr.a] := by
    show (some (V.ref a) :: List.replicate (N.length - 1) none).set 1 _ = some (V.ref a) :: some (V.ref dr.a) :: List.replicate (N.length - 2) none
    rw [hN]
    show some (V.ref a) :: (List.replicate (k + 1) none).set 0 _ = _
    rfl
  have es : ([.val (.list (ns.map .int)), .val drwT] ++ List.replicate k .no : Fs.Env) = sEnv N.length [.list (ns.map .int), drwT] := by
    unfold sEnv
    rw [hN]
    rfl
  rw [es] at math
  rw [ev]
  refine ⟨dr, _, H', _, _, T, .refl, rs_start (.cons (.dp (.lst hSF (ints_dpa ns))) (.cons .drw .nil)), math.mono fun o e => ?_⟩
  subst e
  intro v F1 H1 _ _ r
  cases r with
  | dp r => cases r; exact q H1
end Fs

namespace Fw
open PySem PySem.Spec PyProof.Rows L2 Fs
def topS (i : Nat) : Stmt := PySem.Challenge.pw_foursteps_k82_across_turns_over_a_prime.main.body.getD i (.Pass ⟨0, 0, 0, 0⟩)
def D_FIFTY_DIGITS : D := (.int 100000000000000000000000000000000000000000000000000)
def D_PARTS : D := (.int 4)
def D_NOUGHT : D := (.tuple [(.int 0), (.int 0), (.int 0), (.int 0)])
def D_SPACE : D := (.tuple [(.int 0), (.int 1), (.int 2)])
def D_MOST_PRIME : D := (.int 1000)
section
variable {P : Program} {w : World} {K : PySem.W.Frag} {mg : Str → Option Value} {base : Heap}
abbrev s_Lbegun : Stmt := topS 53
abbrev N_Lbegun : List Str := ["script", "large", "cell"]
theorem sc_Lbegun : FnScope N_Lbegun ["script"] (defScope s_Lbegun) := ⟨rfl, rfl, rfl, by decide +kernel, rfl, by decide +kernel, by decide +kernel⟩
theorem ok_Lbegun (A0 : DefAt K mg "_law_begun" s_Lbegun ["script"]) (n_abs : mg "abs" = none) : ∃ (fa : Addr) (fd : FuncData), FnOk P w K mg base CX0 1 fa fd ["script"] (spBegun K) ∧ mg "_law_begun" = some (.ref fa) ∧ PySem.W.keepIn K (.ref fa) = true ∧ L2.Binds K fd ["script"] [] := by
  obtain ⟨fa, fd, FF, bb, mm⟩ := A0.ex
  refine ⟨fa, fd, ?_, mm, FF.kp, bb⟩
  refine FF.ok sc_Lbegun (fun vs H Q E h => ?_) (fun cdv A outer s H vs Q E hr h => ?_)
  · obtain ⟨a, ns, rfl, _⟩ := h
    rfl
  · obtain ⟨a, ns, rfl, hS, hlen, q⟩ := h
    refine ⟨_, pss_cons (ps_setLc (i := 1) (own := [("cell", 2)]) rfl sc_Lbegun.nd rfl rfl (sw_true rfl rfl rfl (by decide +kernel)) (pi_list (pv 0)) (blkOk_by (N := N_Lbegun) (sc := defScope s_Lbegun) (by decide +kernel))
          (fun _ _ _ _ _ => pg_name (i := 2) sc_Lbegun.nd rfl (Or.inl rfl))
          (fun _ _ _ _ _ => pts_one (pt_cmpR op_ge (pe_callB call_abs (by rfl) n_abs (by decide +kernel) (pa_cons (pv 2) pa_nil)) (pe_op op_pow pe_int pe_int) (nomark _)))
          (fun _ _ _ _ _ => pe_op op_sub (pe_callB call_abs (by rfl) n_abs (by decide +kernel) (pa_cons (pv 2) pa_nil)) (pe_op op_pow pe_int pe_int)))
      (pss_one (ps_ret (pe_disp (pps_cons pe_str (pv 1) (pps_cons pe_str pe_int (pps_cons pe_str
          (pe_lc (own := [("cell", 2)]) rfl sc_Lbegun.nd (pi_list (pv 0)) (blkOk_by (N := N_Lbegun) (sc := defScope s_Lbegun) (by decide +kernel))
            (fun _ _ _ _ _ => pg_name (i := 2) sc_Lbegun.nd rfl (Or.inl rfl)) (fun _ _ _ _ _ => pts_nil) (fun _ _ _ _ _ => pe_callB call_abs (by rfl) n_abs (by decide +kernel) (pa_cons (pv 2) pa_nil)))
          (pps_cons pe_str pe_int pps_nil)))) (by rfl) (by rfl) (fun z => by cases z) (by decide)))), ?_⟩
    have at_ : ∀ {i : Nat} {x : V}, (ns.map V.int)[i]? = some x → ∃ n : Int, x = .int n := fun {i x} hx => by
      rw [List.getElem?_map] at hx
      cases hz : ns[i]? with
      | none => rw [hz] at hx; cases hx
      | some c => rw [hz] at hx; cases hx; exact ⟨c, rfl⟩
    have hl63 : (ns.map V.int).length ≤ 63 := by rw [List.length_map]; exact hlen
    -- large
    refine ⟨.ref a, rfl, a, rfl, ⟨_, hS⟩, fun L hL => ?_⟩
    refine lc_list (xs := ns.map V.int) (fun i H1 => ∃ acc : List Int, H1 L = some (.lst (acc.map V.int)) ∧ acc.length ≤ i ∧ Kept H H1) ⟨[], upd_same, Nat.le_refl _, Kept.new hL⟩ (fun i H1 _ ⟨_, _, _, k⟩ => sql_up k hS) (fun i x H1 hx ⟨acc, h1, h2, h3⟩ => ?_) (fun H1 ⟨large, h1, h2, h3⟩ => ?_)
    · obtain ⟨n, rfl⟩ := at_ hx
      have hi : i < 63 := Nat.lt_of_lt_of_le (List.getElem?_eq_some_iff.mp hx).1 hl63
      refine ⟨rfl, _, rfl, n, rfl, 10, 18, rfl, rfl, ⟨by decide, by decide, by decide⟩, _, _, rfl, rfl, _, rfl, ite2 (fun e => ?_) (fun e => ⟨acc, h1, Nat.le_succ_of_le h2, h3⟩)⟩
      refine ⟨_, rfl, n, rfl, 10, 18, rfl, rfl, ⟨by decide, by decide, by decide⟩, _, _, rfl, rfl, acc.map V.int, h1, ?_, ?_⟩
      · rw [List.length_map]; exact Nat.lt_of_le_of_lt h2 (Nat.lt_trans hi (by decide))
      · exact ⟨acc ++ [_], by rw [upd_same, List.map_append]; rfl, by rw [List.length_append]; exact Nat.succ_le_succ h2, h3.mut hL⟩
    · -- the dict
      intro p hp
      have npL : p ≠ L := fun z => by rw [z, h1] at hp; cases hp
      have hp0 : H p = none := h3.none hp
      have k1 : Kept H (upd H1 p (.dK [])) := h3.mut hp0
      refine ⟨.ref L, rfl, .ref a, rfl, a, rfl, ⟨_, sql_up k1 hS⟩, fun C hC => ?_⟩
      have nCp : C ≠ p := fun z => by rw [z, upd_same] at hC; cases hC
      have nCL : C ≠ L := fun z => by rw [z, upd_ne npL.symm, h1] at hC; cases hC
      have hC1 : H1 C = none := by rw [upd_ne nCp] at hC; exact hC
      have hC0 : H C = none := h3.none hC1
      refine lc_list (xs := ns.map V.int) (fun i H2 => ∃ acc : List Int, H2 C = some (.lst (acc.map V.int)) ∧ acc.length ≤ i ∧ Kept H H2 ∧ H2 p = some (.dK []) ∧ H2 L = some (.lst (large.map V.int)))
        ⟨[], upd_same, Nat.le_refl _, k1.mut hC0, by rw [upd_ne nCp.symm, upd_same], by rw [upd_ne nCL.symm, upd_ne npL.symm]; exact h1⟩ (fun i H2 _ ⟨_, _, _, k, _⟩ => sql_up k hS) (fun i x H2 hx ⟨acc, g1, g2, g3, g4, g5⟩ => ?_) (fun H2 ⟨cells, g1, g2, g3, g4, g5⟩ => ?_)
      · obtain ⟨n, rfl⟩ := at_ hx
        have hi : i < 63 := Nat.lt_of_lt_of_le (List.getElem?_eq_some_iff.mp hx).1 hl63
        refine ⟨rfl, _, rfl, n, rfl, acc.map V.int, g1, ?_, ?_⟩
        · rw [List.length_map]; exact Nat.lt_of_le_of_lt g2 (Nat.lt_trans hi (by decide))
        · exact ⟨acc ++ [_], by rw [upd_same, List.map_append]; rfl, by rw [List.length_append]; exact Nat.succ_le_succ g2, g3.mut hC0, by rw [upd_ne nCp.symm]; exact g4, by rw [upd_ne nCL.symm]; exact g5⟩
      · refine ⟨g4, [(kLarge, .ref L), (kRest, .int 0), (kCells, .ref C), (kTurn, .int 0)], rfl, (show 4 ≤ 15 by decide), ?_⟩
        refine q ⟨p, L, C⟩ _ (g3.mut hp0) ⟨large, cells, 0, 0, ?_, ?_, ?_, nCL.symm⟩ hp0 hL hC0
        · exact upd_same
        · rw [upd_ne npL.symm]; exact g5
        · rw [upd_ne nCp]; exact g1
abbrev s_Lmixed : Stmt := topS 54
theorem sc_Lmixed : FnScope ["draw", "lap", "found", "great", "blend", "cell"] ["draw"] (defScope s_Lmixed) := ⟨rfl, rfl, rfl, by decide +kernel, rfl, by decide +kernel, by decide +kernel⟩
theorem ok_Lmixed (A0 : DefAt K mg "_law_mixed" s_Lmixed ["draw"]) (n_int : mg "int" = none) : Has P w K mg base 1 "_law_mixed" ["draw"] m_Lmixed := by
  obtain ⟨fa, fd, FF, bb, mm⟩ := A0.ex
  refine ⟨fa, fd, ?_, mm, FF.kp, bb⟩
  refine FF.ok sc_Lmixed (fun vs H Q E h => ?_) (fun cdv A outer s H vs Q E hr h => ?_)
  · obtain ⟨dr, F, ds, _, h1, h2, _⟩ := h
    rw [h1.length]; exact h2
  · obtain ⟨dr, F, ds, T, hp, hl, q⟩ := h
    have hu := hu_of hr
    unfold m_Lmixed at q
    split at q
    · rename_i d
      cases hp with
      | cons r0 hp =>
        cases hp
        split at q
        · rename_i hc
          have hd := isDrw_eq hc
          subst hd
          cases rp_drw r0
          refine ⟨_, pss_cons (ps_dput hu (pv 0) pe_str (pe_op op_add (pe_dget hu (pv 0) pe_str (fun _ _ => rfl)) pe_int) rfl)
            (pss_cons (ps_par (i := 1) (j := 2) rfl sc_Lmixed.nd rfl rfl (by decide) rfl rfl (pa_cons (pe_callTy call_int1 (by rfl) n_int (by decide +kernel) (pa_cons (pe_dget hu (pv 0) pe_str (fun _ _ => rfl)) pa_nil)) (pa_cons pe_int pa_nil)) (by rfl))
            (pss_cons (ps_for PassesOwn.never rfl (pi_list (pe_lst (pa_cons pe_int (pa_cons pe_int (pa_cons pe_int pa_nil))))) (pg_name (i := 3) sc_Lmixed.nd rfl (.inl rfl))
              (pss_cons (ps_set (i := 4) sc_Lmixed.nd rfl (.inl rfl) (pe_op op_mod (pe_op op_add (pe_op op_mul (pv 1) pe_int) (pe_op op_fdiv (pv 3) pe_int)) (pv 3)))
              (pss_cons (ps_for PassesOwn.never rfl (pi_list (pe_dget hu (pv 0) pe_str (fun _ _ => rfl))) (pg_name (i := 5) sc_Lmixed.nd rfl (.inl rfl))
                (pss_one (ps_set (i := 4) sc_Lmixed.nd rfl (.inl rfl) (pe_op op_mod (pe_op op_add (pe_op op_add (pe_op op_mul (pv 4) pe_int) (pe_callTy call_int1 (by rfl) n_int (by decide +kernel) (pa_cons (pv 5) pa_nil))) (pv 1)) (pv 3)))))
              (pss_one (ps_set (i := 2) sc_Lmixed.nd rfl (.inl rfl) (pe_op op_add (pe_op op_mul (pv 2) pe_int) (pe_op op_mod (pe_op op_pow (pv 4) pe_int) (pv 3))))))))
            (pss_one (ps_ret (pv 2))))), ?_⟩
          obtain ⟨large, cells, rest, turn, D0⟩ := T.drw.at
          refine ⟨_, rfl, dr.a, _, rfl, D0.get (gTurn _ _ _ _), _, _, rfl, rfl, ?_⟩
          obtain ⟨T1, S1, D1⟩ := dr_setA T D0 rest (turn + 1)
          refine ⟨_, rfl, dr.a, _, rfl, D0.putT _, ?_⟩
          refine ⟨_, rfl, dr.a, _, rfl, D1.get (gTurn _ _ _ _), .inl ⟨_, rfl, _, _, rfl, ?_⟩⟩
          refine ⟨show 3 ≤ sizeLine by decide, fun p hp => ?_⟩
          have D2 := grow_dr D1 hp (.lst [V.int 2147483647, V.int 2147483629, V.int 2147483587])
          obtain ⟨T2, S2⟩ := stt_grow T1 hp (.lst [V.int 2147483647, V.int 2147483629, V.int 2147483587])
          refine ⟨p, rfl, ⟨_, .inl (.inl upd_same)⟩, ?_⟩
          generalize hH : upd (upd H dr.a (.dK (drKv dr.l dr.c rest (turn + 1)))) p (.lst [V.int 2147483647, V.int 2147483629, V.int 2147483587]) = H2 at D2 T2 S2 ⊢
          have hpl : H2 p = some (.lst [V.int 2147483647, V.int 2147483629, V.int 2147483587]) := by rw [← hH]; exact upd_same
          refine for_list (xs := [V.int 2147483647, V.int 2147483629, V.int 2147483587]) (fun i σ H3 => ∃ (found : Int) (x3 x4 x5 : Option V), σ = [some (.ref dr.a), some (.int (turn + 1)), some (.int found), x3, x4, x5] ∧ H3 = H2)
            ⟨0, none, none, none, rfl, rfl⟩ (fun i σ H3 _ ⟨_, _, _, _, _, e⟩ => by rw [e]; exact .inl (.inl hpl)) (fun i x σ H3 hx ⟨found, x3, x4, x5, e1, e2⟩ => ?_) (fun σ H3 ⟨found, x3, x4, x5, e1, e2⟩ => ?_)
          · subst e1 e2
            obtain ⟨g, rfl, g1, g2⟩ := greats hx
            refine ⟨_, rfl, turn + 1, 48271, rfl, rfl, .inr ⟨by decide, by decide⟩, _, rfl, g, 11, rfl, rfl, ⟨by decide, by decide⟩, _, _, rfl, rfl, _, rfl, _, g, rfl, rfl, g1, ?_⟩
            refine ⟨_, rfl, dr.a, _, rfl, D2.get (gCells _ _ _ _), dr.c, rfl, ⟨_, .inl (.inl D2.c)⟩, ?_⟩
            refine for_list (xs := cells.map V.int) (fun i σ H4 => ∃ (blend : Int) (y5 : Option V), σ = [some (.ref dr.a), some (.int (turn + 1)), some (.int found), some (.int g), some (.int blend), y5] ∧ 0 ≤ blend ∧ blend < g ∧ H4 = H3)
              ⟨_, _, rfl, Int.emod_nonneg _ (by omega), Int.emod_lt_of_pos _ g1, rfl⟩ (fun i σ H4 _ ⟨_, _, _, _, _, e⟩ => by rw [e]; exact .inl (.inl D2.c)) (fun j y σ H4 hy ⟨blend, y5, e1, b1, b2, e2⟩ => ?_) (fun σ H4 ⟨blend, y5, e1, b1, b2, e2⟩ => ?_)
            · subst e1 e2
              rw [List.getElem?_map] at hy
              obtain ⟨cc, hcc⟩ : ∃ c : Int, y = .int c := by
                cases hz : cells[j]? with
                | none => rw [hz] at hy; cases hy
                | some c => rw [hz] at hy; cases hy; exact ⟨c, rfl⟩
              subst hcc
              refine ⟨_, rfl, blend, 69621, rfl, rfl, .inr ⟨by decide, by decide⟩, _, rfl, .inl ⟨cc, rfl, _, cc, rfl, rfl, _, rfl, _, turn + 1, rfl, rfl, _, rfl, _, g, rfl, rfl, g1, ?_⟩⟩
              exact ⟨_, _, rfl, Int.emod_nonneg _ (by omega), Int.emod_lt_of_pos _ g1, rfl⟩
            · subst e1 e2
              refine ⟨_, rfl, found, 2147483659, rfl, rfl, .inr ⟨by decide, by decide⟩, _, rfl, blend, 5, rfl, rfl, ⟨by decide, by decide, by omega⟩, _, rfl, _, g, rfl, rfl, g1, _, _, rfl, rfl, ?_⟩
              exact ⟨_, _, _, _, rfl, rfl⟩
          · subst e1 e2
            refine ⟨_, rfl, ?_⟩
            exact q found _ F H3 (S1.trans S2 T2) T2 (.dp (.int _))
        · exact q.elim
    · exact q.elim
abbrev s_Ltake : Stmt := topS 55
theorem sc_Ltake : FnScope ["draw", "amount", "found"] ["draw", "amount"] (defScope s_Ltake) := ⟨rfl, rfl, rfl, by decide +kernel, rfl, by decide +kernel, by decide +kernel⟩
theorem ok_Ltake (A0 : DefAt K mg "_law_take" s_Ltake ["draw", "amount"]) (h_mixed : Has P w K mg base 1 "_law_mixed" ["draw"] m_Lmixed) (n_int : mg "int" = none) : Has P w K mg base 2 "_law_take" ["draw", "amount"] m_Ltake := by
  obtain ⟨fa, fd, FF, bb, mm⟩ := A0.ex
  obtain ⟨fm, fdm, FM, gm, km, bm⟩ := h_mixed.ex
  refine ⟨fa, fd, ?_, mm, FF.kp, bb⟩
  refine FF.ok sc_Ltake (fun vs H Q E h => ?_) (fun cdv A outer s H vs Q E hr h => ?_)
  · obtain ⟨dr, F, ds, _, h1, h2, _⟩ := h
    rw [h1.length]; exact h2
  · obtain ⟨dr, F, ds, T, hp, hl, q⟩ := h
    have hu := hu_of hr
    unfold m_Ltake at q
    split at q
    · rename_i d n
      cases hp with
      | cons r0 hp =>
      cases hp with
      | cons r1 hp =>
        cases hp
        split at q
        · rename_i hc
          have hd := isDrw_eq hc.1
          subst hd
          cases rp_drw r0
          cases rp_int r1
          refine ⟨_, pss_cons (ps_if (pt_cmpR op_eq (pe_dget hu (pv 0) pe_str (fun _ _ => rfl)) pe_int (nomark _))
              (pss_one (ps_dput hu (pv 0) pe_str (pe_ifExp (pt_cmpR (op_neD hr.units) (pe_dget hu (pv 0) pe_str (fun _ _ => rfl)) (pe_lst pa_nil) (nomark _))
                (pe_bm PySem.F.plainAttrs_list PySem.F.slot_list_pop PySem.F.type_list_pop mt_popAt (pe_dget hu (pv 0) pe_str (fun _ _ => rfl)) (pa_cons pe_int pa_nil))
                (pe_call (E := E0) FM hr (by rfl) gm km bm .nil pass0 (pa_cons (pv 0) pa_nil))) rfl)) pss_nil)
            (pss_cons (ps_set (i := 2) sc_Ltake.nd rfl (.inl rfl) (pe_op op_mod (pe_callTy call_int1 (by rfl) n_int (by decide +kernel) (pa_cons (pe_dget hu (pv 0) pe_str (fun _ _ => rfl)) pa_nil)) (pv 1)))
            (pss_cons (ps_dput hu (pv 0) pe_str (pe_op op_fdivW (pe_callTy call_int1 (by rfl) n_int (by decide +kernel) (pa_cons (pe_dget hu (pv 0) pe_str (fun _ _ => rfl)) pa_nil)) (pv 1)) rfl)
            (pss_one (ps_ret (pv 2))))), ?_⟩
          -- from any state on: the number, the rest
          have fin2 : ∀ (σ : L2.St) (F1 H1 : Hp) (large cells : List Int) (rest turn : Int), σ[0]? = some (some (.ref dr.a)) → σ[1]? = some (some (.int n)) → σ.length = 3 → Stt dr F1 H1 → Fs.Step dr F H F1 H1 → DrAt dr H1 large cells rest turn →
              (tSeq (tAsg (tOp (rI (fun _ j => 0 < j) fun i j => .int (i % j)) (tCB (fun xs H Q => (∃ i, xs = [.int i] ∧ Q (.int i) H) ∨ ∃ k, xs = [.bl k] ∧ Q (.int (if k then 1 else 0)) H) (tCons (tDGet (tVar 0) (tC (.str "rest"))) tNil)) (tVar 1)) (gName 2))
                (tSeq (sDPut (tVar 0) (tC (.str "rest")) (tOp (rI CDivW fun i j => .int (i / j)) (tCB (fun xs H Q => (∃ i, xs = [.int i] ∧ Q (.int i) H) ∨ ∃ k, xs = [.bl k] ∧ Q (.int (if k then 1 else 0)) H) (tCons (tDGet (tVar 0) (tC (.str "rest"))) tNil)) (tVar 1))) (tRet (tVar 2))))
                { nx := fun _ H' => Q .non H', rt := Q } σ H1 := by
            intro σ F1 H1 large cells rest turn e0 e1 el T1 S1 D1
            refine ⟨_, e0, dr.a, _, rfl, D1.get (gRest _ _ _ _), .inl ⟨rest, rfl, _, e1, rest, n, rfl, rfl, hc.2.1, ?_⟩⟩
            have e0' : (σ.set 2 (some (V.int (rest % n))))[0]? = some (some (.ref dr.a)) := by rw [List.getElem?_set_ne (by decide)]; exact e0
            have e1' : (σ.set 2 (some (V.int (rest % n))))[1]? = some (some (.int n)) := by rw [List.getElem?_set_ne (by decide)]; exact e1
            have e2' : (σ.set 2 (some (V.int (rest % n))))[2]? = some (some (.int (rest % n))) := List.getElem?_set_self (by omega)
            refine ⟨_, e0', dr.a, _, rfl, D1.get (gRest _ _ _ _), .inl ⟨rest, rfl, _, e1', rest, n, rfl, rfl, ⟨hc.2.1, hc.2.2⟩, ?_⟩⟩
            obtain ⟨T2, S2, D2⟩ := dr_setA T1 D1 (rest / n) turn
            refine ⟨_, e0', dr.a, _, rfl, D1.putR _, ?_⟩
            refine ⟨_, e2', ?_⟩
            have hm : ((rest % n).toNat : Int) = rest % n := Int.toNat_of_nonneg (Int.emod_nonneg _ (by have := hc.2.1; omega))
            have hlt : (rest % n).toNat < n.toNat := by
              have := Int.emod_lt_of_pos rest hc.2.1
              omega
            have qq : ∀ (v : V) (F' H' : Hp), Fs.Step dr F H F' H' → Stt dr F' H' → Rp K dr F' v (.int (((rest % n).toNat : Nat) : Int)) → Q v H' := q (rest % n).toNat hlt
            rw [hm] at qq
            exact qq _ F1 _ (S1.trans S2 T2) T2 (.dp (.int _))
          have fin := fun (σ : L2.St) (H1 : Hp) (large cells : List Int) (rest turn : Int) => fin2 σ F H1 large cells rest turn
          obtain ⟨large, cells, rest, turn, D0⟩ := T.drw.at
          have e0 : (L2.start ["draw", "amount", "found"] [V.ref dr.a, V.int n])[0]? = some (some (.ref dr.a)) := rfl
          have e1 : (L2.start ["draw", "amount", "found"] [V.ref dr.a, V.int n])[1]? = some (some (.int n)) := rfl
          refine ⟨_, e0, dr.a, _, rfl, D0.get (gRest _ _ _ _), rfl, _, rfl, ite2 (fun e => ?_) (fun e => fin _ H large cells rest turn e0 e1 rfl T .refl D0)⟩
          -- draw["rest"] = ..
          refine ⟨_, e0, dr.a, _, rfl, D0.get (gLarge _ _ _ _), Nat.zero_le _, fun p hp => ?_⟩
          have D1 := grow_dr D0 hp (.lst [])
          obtain ⟨T1, S1⟩ := stt_grow T hp (.lst [])
          refine ⟨.list (large.map .int), .list [], .lst (.inl (.inl D1.l)) (ints_dpa large), .lst (.inl (.inl upd_same)) .nil, ?_, rfl, _, rfl, ite2 (fun e => ?_) (fun e => ?_)⟩
          · exact shaped_ints large
          · -- large.pop(0)
            obtain ⟨x, r, rfl⟩ := ite_nil_of e
            refine ⟨_, e0, dr.a, _, rfl, D1.get (gLarge _ _ _ _), .inl ⟨rfl, _, .inl (.inl D1.l)⟩, dr.l, _, 0, 0, .int x, rfl, rfl, D1.l, by decide, by decide, by simp [seqIndex?], rfl, ?_⟩
            obtain ⟨T2, S2, D2⟩ := dr_setL T1 D1 r
            refine ⟨_, e0, dr.a, _, rfl, D2.putR x, ?_⟩
            obtain ⟨T3, S3, D3⟩ := dr_setA T2 D2 x turn
            exact fin _ _ _ _ _ _ e0 e1 rfl T3 (S1.trans (S2.trans S3 T3) T3) D3
          · -- mixed
            refine ⟨_, e0, dr, F, [drwT], T1, .cons .drw .nil, rfl, fun i v F2 H2 S2 T2 rv => ?_⟩
            cases rp_int rv
            have SS := S1.trans S2 T2
            obtain ⟨large2, cells2, rest2, turn2, D2⟩ := T2.drw.at
            refine ⟨_, e0, dr.a, _, rfl, D2.putR i, ?_⟩
            obtain ⟨T3, S3, D3⟩ := dr_setA T2 D2 i turn2
            exact fin2 _ _ _ _ _ _ _ e0 e1 rfl T3 (SS.trans S3 T3) D3
        · exact q.elim
    · exact q.elim
abbrev s_is_number : Stmt := topS 15
abbrev N_is_number : List Str := ["thing"]
theorem sc_is_number : FnScope N_is_number ["thing"] (defScope s_is_number) := ⟨rfl, rfl, rfl, by decide +kernel, rfl, by decide +kernel, by decide +kernel⟩
def S_is_number : DS := (dRet (dAndV (dIsi "int" (dPeek 0)) (dNotV (dIsi "bool" (dPeek 0)))))
def m_is_number : List D → Cm D := fnD 1 S_is_number
theorem ok_is_number (A0 : DefAt K mg "is_number" s_is_number ["thing"]) (n_bool : mg "bool" = none) (n_int : mg "int" = none) (n_isinstance : mg "isinstance" = none) : Has P w K mg base 1 "is_number" ["thing"] m_is_number :=
  has_mk 0 A0 sc_is_number S_is_number fun f cdv A outer sh H hr =>
    (ss_one (s_ret (e_and (e_isi (by rfl) n_isinstance (by decide +kernel) (by rfl) n_int (by decide +kernel) (b_var (pv 0))) (e_one (e_not (e_isi (by rfl) n_isinstance (by decide +kernel) (by rfl) n_bool (by decide +kernel) (b_var (pv 0))))))))
abbrev s_is_short : Stmt := topS 16
abbrev N_is_short : List Str := ["thing"]
theorem sc_is_short : FnScope N_is_short ["thing"] (defScope s_is_short) := ⟨rfl, rfl, rfl, by decide +kernel, rfl, by decide +kernel, by decide +kernel⟩
def S_is_short : DS := (dRet (dAndV (dCallN 1 m_is_number (dCons (dVar 0) dNil)) (dOp (vCmp pLt) (dCall cAbs (dCons (dPeek 0) dNil)) (dOp vPow (dCst D_FIFTY_DIGITS) (dCst (.int 4))))))
def m_is_short : List D → Cm D := fnD 1 S_is_short
theorem ok_is_short (A0 : DefAt K mg "is_short" s_is_short ["thing"]) (h_is_number : Has P w K mg base 1 "is_number" ["thing"] m_is_number) (n_abs : mg "abs" = none) (c_FIFTY_DIGITS : CstAt K mg "FIFTY_DIGITS" D_FIFTY_DIGITS) : Has P w K mg base 2 "is_short" ["thing"] m_is_short :=
  has_mk 1 A0 sc_is_short S_is_short fun f cdv A outer sh H hr =>
    (ss_one (s_ret (e_and (e_callH h_is_number (hr.mono (by decide)) (by rfl) (a_cons (e_var (pv 0)) a_nil)) (e_one (e_cmp o_lt (e_b (e_callB k_abs (by rfl) n_abs (by decide +kernel) (ab_cons (b_var (pv 0)) ab_nil))) (e_b (e_op o_pow (e_b (e_cst c_FIFTY_DIGITS (by rfl))) (e_b e_int))) (nomark _))))))
abbrev s_is_quad_of : Stmt := topS 17
abbrev N_is_quad_of : List Str := ["thing", "number"]
theorem sc_is_quad_of : FnScope N_is_quad_of ["thing"] (defScope s_is_quad_of) := ⟨rfl, rfl, rfl, by decide +kernel, rfl, by decide +kernel, by decide +kernel⟩
def S_is_quad_of : DS := (dSeq (dIfS (dOrT (dNotT (dTru (dIsi "tuple" (dPeek 0)))) (dOrT (dTru (dOp vNe (dCall cLen (dCons (dPeek 0) dNil)) (dCst D_PARTS))) (dNotT (dTru (dCall cAll (dCons (dOnlyL (dLc (dItems (dVar 0)) (gN 1) dYes (dCallN 1 m_is_short (dCons (dVar 1) dNil)) [1])) dNil)))))) (dRet (dCst (.bool false))) dSkip)
    (dRet (dCall cAll (dCons (dOnlyL (dLc (dItems (dVar 0)) (gN 1) dYes (dOp vEq (dOp vMod (dOp vSub (dPeek 1) (dOp vIx (dPeek 0) (dCst (.int 0)))) (dCst (.int 2))) (dCst (.int 0))) [1])) dNil))))
def m_is_quad_of : List D → Cm D := fnD 2 S_is_quad_of
theorem ok_is_quad_of (A0 : DefAt K mg "is_quad_of" s_is_quad_of ["thing"]) (h_is_short : Has P w K mg base 2 "is_short" ["thing"] m_is_short) (n_all : mg "all" = none) (n_isinstance : mg "isinstance" = none) (n_len : mg "len" = none) (n_tuple : mg "tuple" = none) (c_PARTS : CstAt K mg "PARTS" D_PARTS) : Has P w K mg base 3 "is_quad_of" ["thing"] m_is_quad_of :=
  has_mk 2 A0 sc_is_quad_of S_is_quad_of fun f cdv A outer sh H hr =>
    (ss_cons (s_if (PW.pt (w_or (t_not (t_val (e_isi (by rfl) n_isinstance (by decide +kernel) (by rfl) n_tuple (by decide +kernel) (b_var (pv 0))))) (w_or (t_cmp (o_ne hr.units) (e_b (e_callB k_len (by rfl) n_len (by decide +kernel) (ab_cons (b_var (pv 0)) ab_nil))) (e_b (e_cst c_PARTS (by rfl))) (nomark _)) (w_or1 (t_not (t_val (e_callB (k_all rfl) (by rfl) n_all (by decide +kernel) (ab_cons (e_b (e_f (f_lc (own := [("number", 1)]) rfl sc_is_quad_of.nd (i_seq (e_var (pv 0))) (blkOk_by (N := N_is_quad_of) (sc := (defScope s_is_quad_of)) (by decide +kernel)) (fun _ _ _ _ _ => (g_name (i := 1) sc_is_quad_of.nd rfl (by first | exact .inl rfl | exact .inr rfl))) (fun _ _ _ _ _ => ts_nil) (fun _ _ _ _ _ => (e_callH h_is_short (hr.mono (by decide)) (by rfl) (a_cons (e_var (pv 1)) a_nil))) (by decide)))) ab_nil)))))))) (ss_one (s_ret e_bl)) ss_nil)
      (ss_one (s_ret (e_callB (k_all rfl) (by rfl) n_all (by decide +kernel) (ab_cons (e_b (e_f (f_lc (own := [("number", 1)]) rfl sc_is_quad_of.nd (i_seq (e_var (pv 0))) (blkOk_by (N := N_is_quad_of) (sc := (defScope s_is_quad_of)) (by decide +kernel)) (fun _ _ _ _ _ => (g_name (i := 1) sc_is_quad_of.nd rfl (by first | exact .inl rfl | exact .inr rfl))) (fun _ _ _ _ _ => ts_nil) (fun _ _ _ _ _ => (e_cmp (o_eq hr.units) (e_b (e_op o_mod (e_b (e_op o_sub (b_var (pv 1)) (e_b (e_ix x_ix (b_var (pv 0)) (e_b e_int) (fun _ _ => rfl))))) (e_b e_int))) (e_b e_int) (nomark _))) (by decide)))) ab_nil)))))
abbrev s_need_quad : Stmt := topS 18
abbrev N_need_quad : List Str := ["quad"]
theorem sc_need_quad : FnScope N_need_quad ["quad"] (defScope s_need_quad) := ⟨rfl, rfl, rfl, by decide +kernel, rfl, by decide +kernel, by decide +kernel⟩
def S_need_quad : DS := (dIfS (dNotT (dTru (dCallN 1 m_is_quad_of (dCons (dVar 0) dNil)))) dNever dSkip)
def m_need_quad : List D → Cm D := fnD 1 S_need_quad
theorem ok_need_quad (A0 : DefAt K mg "need_quad" s_need_quad ["quad"]) (h_is_quad_of : Has P w K mg base 3 "is_quad_of" ["thing"] m_is_quad_of) : Has P w K mg base 4 "need_quad" ["quad"] m_need_quad :=
  has_mk 3 A0 sc_need_quad S_need_quad fun f cdv A outer sh H hr =>
    (ss_one (s_if (t_not (t_val (e_callH h_is_quad_of (hr.mono (by decide)) (by rfl) (a_cons (e_var (pv 0)) a_nil)))) (ss_one s_never) ss_nil))
abbrev s_need_two : Stmt := topS 19
abbrev N_need_two : List Str := ["one", "other"]
theorem sc_need_two : FnScope N_need_two ["one", "other"] (defScope s_need_two) := ⟨rfl, rfl, rfl, by decide +kernel, rfl, by decide +kernel, by decide +kernel⟩
def S_need_two : DS := (dSeq (dIfS (dNotT (dTru (dCallN 1 m_is_quad_of (dCons (dVar 0) dNil)))) dNever dSkip)
    (dIfS (dNotT (dTru (dCallN 1 m_is_quad_of (dCons (dVar 1) dNil)))) dNever dSkip))
def m_need_two : List D → Cm D := fnD 2 S_need_two
theorem ok_need_two (A0 : DefAt K mg "need_two" s_need_two ["one", "other"]) (h_is_quad_of : Has P w K mg base 3 "is_quad_of" ["thing"] m_is_quad_of) : Has P w K mg base 4 "need_two" ["one", "other"] m_need_two :=
  has_mk 3 A0 sc_need_two S_need_two fun f cdv A outer sh H hr =>
    (ss_cons (s_if (t_not (t_val (e_callH h_is_quad_of (hr.mono (by decide)) (by rfl) (a_cons (e_var (pv 0)) a_nil)))) (ss_one s_never) ss_nil)
      (ss_one (s_if (t_not (t_val (e_callH h_is_quad_of (hr.mono (by decide)) (by rfl) (a_cons (e_var (pv 1)) a_nil)))) (ss_one s_never) ss_nil)))
abbrev s_short_quad : Stmt := topS 20
abbrev N_short_quad : List Str := ["quad", "number"]
theorem sc_short_quad : FnScope N_short_quad ["quad"] (defScope s_short_quad) := ⟨rfl, rfl, rfl, by decide +kernel, rfl, by decide +kernel, by decide +kernel⟩
def S_short_quad : DS := (dSeq (dIfS (dNotT (dTru (dCall cAll (dCons (dOnlyL (dLc (dItems (dVar 0)) (gN 1) dYes (dCallN 1 m_is_short (dCons (dVar 1) dNil)) [1])) dNil)))) dNever dSkip)
    (dRet (dVar 0)))
def m_short_quad : List D → Cm D := fnD 2 S_short_quad
theorem ok_short_quad (A0 : DefAt K mg "short_quad" s_short_quad ["quad"]) (h_is_short : Has P w K mg base 2 "is_short" ["thing"] m_is_short) (n_all : mg "all" = none) : Has P w K mg base 3 "short_quad" ["quad"] m_short_quad :=
  has_mk 2 A0 sc_short_quad S_short_quad fun f cdv A outer sh H hr =>
    (ss_cons (s_if (t_not (t_val (e_callB (k_all rfl) (by rfl) n_all (by decide +kernel) (ab_cons (e_b (e_f (f_lc (own := [("number", 1)]) rfl sc_short_quad.nd (i_seq (e_var (pv 0))) (blkOk_by (N := N_short_quad) (sc := (defScope s_short_quad)) (by decide +kernel)) (fun _ _ _ _ _ => (g_name (i := 1) sc_short_quad.nd rfl (by first | exact .inl rfl | exact .inr rfl))) (fun _ _ _ _ _ => ts_nil) (fun _ _ _ _ _ => (e_callH h_is_short (hr.mono (by decide)) (by rfl) (a_cons (e_var (pv 1)) a_nil))) (by decide)))) ab_nil)))) (ss_one s_never) ss_nil)
      (ss_one (s_ret (e_var (pv 0)))))
abbrev s_product_by : Stmt := topS 21
abbrev N_product_by : List Str := ["one", "other", "a", "b", "c", "d", "e", "f", "g", "h"]
theorem sc_product_by : FnScope N_product_by ["one", "other"] (defScope s_product_by) := ⟨rfl, rfl, rfl, by decide +kernel, rfl, by decide +kernel, by decide +kernel⟩
def S_product_by : DS := (dSeq (dAsg (dTupF (dCons (dVar 0) (dCons (dVar 1) dNil))) (gTp 2 (gsCons (gTp 4 (gsCons (gN 2) (gsCons (gN 3) (gsCons (gN 4) (gsCons (gN 5) gsNil))))) (gsCons (gTp 4 (gsCons (gN 6) (gsCons (gN 7) (gsCons (gN 8) (gsCons (gN 9) gsNil))))) gsNil))))
    (dRet (dTupF (dCons (dOp vDiv (dOp vSub (dOp vSub (dOp vSub (dOp vMul (dPeek 2) (dPeek 6)) (dOp vMul (dPeek 3) (dPeek 7))) (dOp vMul (dPeek 4) (dPeek 8))) (dOp vMul (dPeek 5) (dPeek 9))) (dCst (.int 2))) (dCons (dOp vDiv (dOp vSub (dOp vAdd (dOp vAdd (dOp vMul (dPeek 2) (dPeek 7)) (dOp vMul (dPeek 3) (dPeek 6))) (dOp vMul (dPeek 4) (dPeek 9))) (dOp vMul (dPeek 5) (dPeek 8))) (dCst (.int 2))) (dCons (dOp vDiv (dOp vAdd (dOp vAdd (dOp vSub (dOp vMul (dPeek 2) (dPeek 8)) (dOp vMul (dPeek 3) (dPeek 9))) (dOp vMul (dPeek 4) (dPeek 6))) (dOp vMul (dPeek 5) (dPeek 7))) (dCst (.int 2))) (dCons (dOp vDiv (dOp vAdd (dOp vSub (dOp vAdd (dOp vMul (dPeek 2) (dPeek 9)) (dOp vMul (dPeek 3) (dPeek 8))) (dOp vMul (dPeek 4) (dPeek 7))) (dOp vMul (dPeek 5) (dPeek 6))) (dCst (.int 2))) dNil)))))))
def m_product_by : List D → Cm D := fnD 10 S_product_by
theorem ok_product_by (A0 : DefAt K mg "product_by" s_product_by ["one", "other"]) : Has P w K mg base 1 "product_by" ["one", "other"] m_product_by :=
  has_mk 0 A0 sc_product_by S_product_by fun f cdv A outer sh H hr =>
    (ss_cons (s_asg (e_tup (a_cons (e_var (pv 0)) (a_cons (e_var (pv 1)) a_nil))) (g_tup (n := 2) rfl (gs_cons (g_tup (n := 4) rfl (gs_cons (g_name (i := 2) sc_product_by.nd rfl (by first | exact .inl rfl | exact .inr rfl)) (gs_cons (g_name (i := 3) sc_product_by.nd rfl (by first | exact .inl rfl | exact .inr rfl)) (gs_cons (g_name (i := 4) sc_product_by.nd rfl (by first | exact .inl rfl | exact .inr rfl)) (gs_cons (g_name (i := 5) sc_product_by.nd rfl (by first | exact .inl rfl | exact .inr rfl)) gs_nil))))) (gs_cons (g_tup (n := 4) rfl (gs_cons (g_name (i := 6) sc_product_by.nd rfl (by first | exact .inl rfl | exact .inr rfl)) (gs_cons (g_name (i := 7) sc_product_by.nd rfl (by first | exact .inl rfl | exact .inr rfl)) (gs_cons (g_name (i := 8) sc_product_by.nd rfl (by first | exact .inl rfl | exact .inr rfl)) (gs_cons (g_name (i := 9) sc_product_by.nd rfl (by first | exact .inl rfl | exact .inr rfl)) gs_nil))))) gs_nil))))
      (ss_one (s_ret (e_tup (a_cons (e_op o_div (e_b (e_op o_sub (e_b (e_op o_sub (e_b (e_op o_sub (e_b (e_op o_mul (b_var (pv 2)) (b_var (pv 6)))) (e_b (e_op o_mul (b_var (pv 3)) (b_var (pv 7)))))) (e_b (e_op o_mul (b_var (pv 4)) (b_var (pv 8)))))) (e_b (e_op o_mul (b_var (pv 5)) (b_var (pv 9)))))) (e_b e_int)) (a_cons (e_op o_div (e_b (e_op o_sub (e_b (e_op o_add (e_b (e_op o_add (e_b (e_op o_mul (b_var (pv 2)) (b_var (pv 7)))) (e_b (e_op o_mul (b_var (pv 3)) (b_var (pv 6)))))) (e_b (e_op o_mul (b_var (pv 4)) (b_var (pv 9)))))) (e_b (e_op o_mul (b_var (pv 5)) (b_var (pv 8)))))) (e_b e_int)) (a_cons (e_op o_div (e_b (e_op o_add (e_b (e_op o_add (e_b (e_op o_sub (e_b (e_op o_mul (b_var (pv 2)) (b_var (pv 8)))) (e_b (e_op o_mul (b_var (pv 3)) (b_var (pv 9)))))) (e_b (e_op o_mul (b_var (pv 4)) (b_var (pv 6)))))) (e_b (e_op o_mul (b_var (pv 5)) (b_var (pv 7)))))) (e_b e_int)) (a_cons (e_op o_div (e_b (e_op o_add (e_b (e_op o_sub (e_b (e_op o_add (e_b (e_op o_mul (b_var (pv 2)) (b_var (pv 9)))) (e_b (e_op o_mul (b_var (pv 3)) (b_var (pv 8)))))) (e_b (e_op o_mul (b_var (pv 4)) (b_var (pv 7)))))) (e_b (e_op o_mul (b_var (pv 5)) (b_var (pv 6)))))) (e_b e_int)) a_nil))))))))
abbrev s_plus_by : Stmt := topS 22
abbrev N_plus_by : List Str := ["one", "other", "many", "first", "second"]
theorem sc_plus_by : FnScope N_plus_by ["one", "other", "many"] (defScope s_plus_by) := ⟨rfl, rfl, rfl, by decide +kernel, rfl, by decide +kernel, by decide +kernel⟩
def S_plus_by : DS := (dRet (dCall cTuple (dCons (dOnlyL (dLc (dZip2 (dCons (dVar 0) (dCons (dVar 1) dNil))) (gTp 2 (gsCons (gN 3) (gsCons (gN 4) gsNil))) dYes (dOp vAdd (dPeek 3) (dOp vMul (dPeek 2) (dPeek 4))) [3, 4])) dNil)))
def m_plus_by : List D → Cm D := fnD 5 S_plus_by
theorem ok_plus_by (A0 : DefAt K mg "plus_by" s_plus_by ["one", "other", "many"]) (n_tuple : mg "tuple" = none) (n_zip : mg "zip" = none) : Has P w K mg base 1 "plus_by" ["one", "other", "many"] m_plus_by :=
  has_mk 0 A0 sc_plus_by S_plus_by fun f cdv A outer sh H hr =>
    (ss_one (s_ret (e_callTy k_tuple (by rfl) n_tuple (by decide +kernel) (ab_cons (e_b (e_f (f_lc (own := [("first", 3), ("second", 4)]) rfl sc_plus_by.nd (i_zip2 (by rfl) n_zip (a_cons (e_var (pv 0)) (a_cons (e_var (pv 1)) a_nil))) (blkOk_by (N := N_plus_by) (sc := (defScope s_plus_by)) (by decide +kernel)) (fun _ _ _ _ _ => (g_tup (n := 2) rfl (gs_cons (g_name (i := 3) sc_plus_by.nd rfl (by first | exact .inl rfl | exact .inr rfl)) (gs_cons (g_name (i := 4) sc_plus_by.nd rfl (by first | exact .inl rfl | exact .inr rfl)) gs_nil)))) (fun _ _ _ _ _ => ts_nil) (fun _ _ _ _ _ => (e_op o_add (b_var (pv 3)) (e_b (e_op o_mul (b_var (pv 2)) (b_var (pv 4)))))) (by decide)))) ab_nil))))
abbrev s_product : Stmt := topS 23
abbrev N_product : List Str := ["one", "other"]
theorem sc_product : FnScope N_product ["one", "other"] (defScope s_product) := ⟨rfl, rfl, rfl, by decide +kernel, rfl, by decide +kernel, by decide +kernel⟩
def S_product : DS := (dSeq (dDrop (dCallN 2 m_need_two (dCons (dVar 0) (dCons (dVar 1) dNil))))
    (dRet (dCallN 1 m_short_quad (dCons (dCallN 2 m_product_by (dCons (dVar 0) (dCons (dVar 1) dNil))) dNil))))
def m_product : List D → Cm D := fnD 2 S_product
theorem ok_product (A0 : DefAt K mg "product" s_product ["one", "other"]) (h_need_two : Has P w K mg base 4 "need_two" ["one", "other"] m_need_two) (h_short_quad : Has P w K mg base 3 "short_quad" ["quad"] m_short_quad) (h_product_by : Has P w K mg base 1 "product_by" ["one", "other"] m_product_by) : Has P w K mg base 5 "product" ["one", "other"] m_product :=
  has_mk 4 A0 sc_product S_product fun f cdv A outer sh H hr =>
    (ss_cons (s_drop (e_callH h_need_two (hr.mono (by decide)) (by rfl) (a_cons (e_var (pv 0)) (a_cons (e_var (pv 1)) a_nil))))
      (ss_one (s_ret (e_callH h_short_quad (hr.mono (by decide)) (by rfl) (a_cons (e_callH h_product_by (hr.mono (by decide)) (by rfl) (a_cons (e_var (pv 0)) (a_cons (e_var (pv 1)) a_nil))) a_nil)))))
abbrev s_plus : Stmt := topS 24
abbrev N_plus : List Str := ["one", "other", "many"]
theorem sc_plus : FnScope N_plus ["one", "other", "many"] (defScope s_plus) := ⟨rfl, rfl, rfl, by decide +kernel, rfl, by decide +kernel, by decide +kernel⟩
def S_plus : DS := (dSeq (dDrop (dCallN 2 m_need_two (dCons (dVar 0) (dCons (dVar 1) dNil))))
    (dSeq (dIfS (dNotT (dTru (dCallN 1 m_is_short (dCons (dVar 2) dNil)))) dNever dSkip)
    (dRet (dCallN 1 m_short_quad (dCons (dCallN 3 m_plus_by (dCons (dVar 0) (dCons (dVar 1) (dCons (dVar 2) dNil)))) dNil)))))
def m_plus : List D → Cm D := fnD 3 S_plus
theorem ok_plus (A0 : DefAt K mg "plus" s_plus ["one", "other", "many"]) (h_need_two : Has P w K mg base 4 "need_two" ["one", "other"] m_need_two) (h_is_short : Has P w K mg base 2 "is_short" ["thing"] m_is_short) (h_short_quad : Has P w K mg base 3 "short_quad" ["quad"] m_short_quad) (h_plus_by : Has P w K mg base 1 "plus_by" ["one", "other", "many"] m_plus_by) : Has P w K mg base 5 "plus" ["one", "other", "many"] m_plus :=
  has_mk 4 A0 sc_plus S_plus fun f cdv A outer sh H hr =>
    (ss_cons (s_drop (e_callH h_need_two (hr.mono (by decide)) (by rfl) (a_cons (e_var (pv 0)) (a_cons (e_var (pv 1)) a_nil))))
      (ss_cons (s_if (t_not (t_val (e_callH h_is_short (hr.mono (by decide)) (by rfl) (a_cons (e_var (pv 2)) a_nil)))) (ss_one s_never) ss_nil)
      (ss_one (s_ret (e_callH h_short_quad (hr.mono (by decide)) (by rfl) (a_cons (e_callH h_plus_by (hr.mono (by decide)) (by rfl) (a_cons (e_var (pv 0)) (a_cons (e_var (pv 1)) (a_cons (e_var (pv 2)) a_nil)))) a_nil))))))
abbrev s_are_three : Stmt := topS 27
abbrev N_are_three : List Str := ["thing", "one"]
theorem sc_are_three : FnScope N_are_three ["thing"] (defScope s_are_three) := ⟨rfl, rfl, rfl, by decide +kernel, rfl, by decide +kernel, by decide +kernel⟩
def S_are_three : DS := (dRet (dAndV (dIsi "tuple" (dPeek 0)) (dAndV (dOp vEq (dCall cLen (dCons (dPeek 0) dNil)) (dCall cLen (dCons (dCst D_SPACE) dNil))) (dCall cAll (dCons (dOnlyL (dLc (dItems (dVar 0)) (gN 1) dYes (dCallN 1 m_is_number (dCons (dVar 1) dNil)) [1])) dNil)))))
def m_are_three : List D → Cm D := fnD 2 S_are_three
theorem ok_are_three (A0 : DefAt K mg "are_three" s_are_three ["thing"]) (h_is_number : Has P w K mg base 1 "is_number" ["thing"] m_is_number) (n_all : mg "all" = none) (n_isinstance : mg "isinstance" = none) (n_len : mg "len" = none) (n_tuple : mg "tuple" = none) (c_SPACE : CstAt K mg "SPACE" D_SPACE) : Has P w K mg base 2 "are_three" ["thing"] m_are_three :=
  has_mk 1 A0 sc_are_three S_are_three fun f cdv A outer sh H hr =>
    (ss_one (s_ret (e_and (e_isi (by rfl) n_isinstance (by decide +kernel) (by rfl) n_tuple (by decide +kernel) (b_var (pv 0))) (e_and (e_cmp (o_eq hr.units) (e_b (e_callB k_len (by rfl) n_len (by decide +kernel) (ab_cons (b_var (pv 0)) ab_nil))) (e_b (e_callB k_len (by rfl) n_len (by decide +kernel) (ab_cons (e_b (e_cst c_SPACE (by rfl))) ab_nil))) (nomark _)) (e_one (e_callB (k_all rfl) (by rfl) n_all (by decide +kernel) (ab_cons (e_b (e_f (f_lc (own := [("one", 1)]) rfl sc_are_three.nd (i_seq (e_var (pv 0))) (blkOk_by (N := N_are_three) (sc := (defScope s_are_three)) (by decide +kernel)) (fun _ _ _ _ _ => (g_name (i := 1) sc_are_three.nd rfl (by first | exact .inl rfl | exact .inr rfl))) (fun _ _ _ _ _ => ts_nil) (fun _ _ _ _ _ => (e_callH h_is_number (hr.mono (by decide)) (by rfl) (a_cons (e_var (pv 1)) a_nil))) (by decide)))) ab_nil)))))))
abbrev s_shortened : Stmt := topS 28
abbrev N_shortened : List Str := ["below", "rows", "whole", "row", "number"]
theorem sc_shortened : FnScope N_shortened ["below", "rows"] (defScope s_shortened) := ⟨rfl, rfl, rfl, by decide +kernel, rfl, by decide +kernel, by decide +kernel⟩
def S_shortened : DS := (dSeq (dSet 2 (dVar 0))
    (dSeq (dFor (dItems (dVar 1)) (gN 3) (dFor (dItems (dVar 3)) (gN 4) (dSet 2 (dCall cGcd (dCons (dPeek 2) (dCons (dPeek 4) dNil))))))
    (dRet (dTupF (dCons (dOp vDiv (dPeek 0) (dPeek 2)) (dCons (dCall cTuple (dCons (dOnlyL (dLc (dItems (dVar 1)) (gN 3) dYes (dCall cTuple (dCons (dOnlyL (dLc (dItems (dVar 3)) (gN 4) dYes (dOp vDiv (dPeek 4) (dPeek 2)) [4])) dNil)) [3])) dNil)) dNil))))))
def m_shortened : List D → Cm D := fnD 5 S_shortened
theorem ok_shortened (A0 : DefAt K mg "shortened" s_shortened ["below", "rows"]) (n_tuple : mg "tuple" = none) (n_gcd : mg "gcd" = some (.builtin "math.gcd")) : Has P w K mg base 1 "shortened" ["below", "rows"] m_shortened :=
  has_mk 0 A0 sc_shortened S_shortened fun f cdv A outer sh H hr =>
    (ss_cons (s_set (i := 2) sc_shortened.nd rfl (by first | exact .inl rfl | exact .inr rfl) (e_var (pv 0)))
      (ss_cons (s_for PassesOwn.never rfl (i_seq (e_var (pv 1))) (g_name (i := 3) sc_shortened.nd rfl (by first | exact .inl rfl | exact .inr rfl)) (ss_one (s_for PassesOwn.never rfl (i_seq (e_var (pv 3))) (g_name (i := 4) sc_shortened.nd rfl (by first | exact .inl rfl | exact .inr rfl)) (ss_one (s_set (i := 2) sc_shortened.nd rfl (by first | exact .inl rfl | exact .inr rfl) (e_callBf k_gcd (by rfl) n_gcd (ab_cons (b_var (pv 2)) (ab_cons (b_var (pv 4)) ab_nil))))))))
      (ss_one (s_ret (e_tup (a_cons (e_op o_div (b_var (pv 0)) (b_var (pv 2))) (a_cons (e_callTy k_tuple (by rfl) n_tuple (by decide +kernel) (ab_cons (e_b (e_f (f_lc (own := [("row", 3)]) rfl sc_shortened.nd (i_seq (e_var (pv 1))) (blkOk_by (N := N_shortened) (sc := (defScope s_shortened)) (by decide +kernel)) (fun _ _ _ _ _ => (g_name (i := 3) sc_shortened.nd rfl (by first | exact .inl rfl | exact .inr rfl))) (fun _ _ _ _ _ => ts_nil) (fun _ _ _ _ _ => (e_callTy k_tuple (by rfl) n_tuple (by decide +kernel) (ab_cons (e_b (e_f (f_lc (own := [("number", 4)]) rfl sc_shortened.nd (i_seq (e_var (pv 3))) (blkOk_by (N := N_shortened) (sc := (relS _ (defScope s_shortened))) (by decide +kernel)) (fun _ _ _ _ _ => (g_name (i := 4) sc_shortened.nd rfl (by first | exact .inl rfl | exact .inr rfl))) (fun _ _ _ _ _ => ts_nil) (fun _ _ _ _ _ => (e_op o_div (b_var (pv 4)) (b_var (pv 2)))) (by decide)))) ab_nil))) (by decide)))) ab_nil)) a_nil)))))))
abbrev s_across : Stmt := topS 29
abbrev N_across : List Str := ["one", "other", "mine", "late"]
theorem sc_across : FnScope N_across ["one", "other"] (defScope s_across) := ⟨rfl, rfl, rfl, by decide +kernel, rfl, by decide +kernel, by decide +kernel⟩
def S_across : DS := (dRet (dCall cSum (dCons (dOnlyL (dLc (dZip2 (dCons (dVar 0) (dCons (dVar 1) dNil))) (gTp 2 (gsCons (gN 2) (gsCons (gN 3) gsNil))) dYes (dOp vMul (dPeek 2) (dPeek 3)) [2, 3])) dNil)))
def m_across : List D → Cm D := fnD 4 S_across
theorem ok_across (A0 : DefAt K mg "across" s_across ["one", "other"]) (n_sum : mg "sum" = none) (n_zip : mg "zip" = none) : Has P w K mg base 1 "across" ["one", "other"] m_across :=
  has_mk 0 A0 sc_across S_across fun f cdv A outer sh H hr =>
    (ss_one (s_ret (e_callB (k_sum rfl) (by rfl) n_sum (by decide +kernel) (ab_cons (e_b (e_f (f_lc (own := [("mine", 2), ("late", 3)]) rfl sc_across.nd (i_zip2 (by rfl) n_zip (a_cons (e_var (pv 0)) (a_cons (e_var (pv 1)) a_nil))) (blkOk_by (N := N_across) (sc := (defScope s_across)) (by decide +kernel)) (fun _ _ _ _ _ => (g_tup (n := 2) rfl (gs_cons (g_name (i := 2) sc_across.nd rfl (by first | exact .inl rfl | exact .inr rfl)) (gs_cons (g_name (i := 3) sc_across.nd rfl (by first | exact .inl rfl | exact .inr rfl)) gs_nil)))) (fun _ _ _ _ _ => ts_nil) (fun _ _ _ _ _ => (e_op o_mul (b_var (pv 2)) (b_var (pv 3)))) (by decide)))) ab_nil))))
abbrev s_determinant_of : Stmt := topS 30
abbrev N_determinant_of : List Str := ["rows", "a", "b", "c", "d", "e", "f", "g", "h", "i"]
theorem sc_determinant_of : FnScope N_determinant_of ["rows"] (defScope s_determinant_of) := ⟨rfl, rfl, rfl, by decide +kernel, rfl, by decide +kernel, by decide +kernel⟩
def S_determinant_of : DS := (dSeq (dAsg (dVar 0) (gTp 3 (gsCons (gTp 3 (gsCons (gN 1) (gsCons (gN 2) (gsCons (gN 3) gsNil)))) (gsCons (gTp 3 (gsCons (gN 4) (gsCons (gN 5) (gsCons (gN 6) gsNil)))) (gsCons (gTp 3 (gsCons (gN 7) (gsCons (gN 8) (gsCons (gN 9) gsNil)))) gsNil)))))
    (dRet (dOp vAdd (dOp vSub (dOp vMul (dPeek 1) (dOp vSub (dOp vMul (dPeek 5) (dPeek 9)) (dOp vMul (dPeek 6) (dPeek 8)))) (dOp vMul (dPeek 2) (dOp vSub (dOp vMul (dPeek 4) (dPeek 9)) (dOp vMul (dPeek 6) (dPeek 7))))) (dOp vMul (dPeek 3) (dOp vSub (dOp vMul (dPeek 4) (dPeek 8)) (dOp vMul (dPeek 5) (dPeek 7)))))))
def m_determinant_of : List D → Cm D := fnD 10 S_determinant_of
theorem ok_determinant_of (A0 : DefAt K mg "determinant_of" s_determinant_of ["rows"]) : Has P w K mg base 1 "determinant_of" ["rows"] m_determinant_of :=
  has_mk 0 A0 sc_determinant_of S_determinant_of fun f cdv A outer sh H hr =>
    (ss_cons (s_asg (e_var (pv 0)) (g_tup (n := 3) rfl (gs_cons (g_tup (n := 3) rfl (gs_cons (g_name (i := 1) sc_determinant_of.nd rfl (by first | exact .inl rfl | exact .inr rfl)) (gs_cons (g_name (i := 2) sc_determinant_of.nd rfl (by first | exact .inl rfl | exact .inr rfl)) (gs_cons (g_name (i := 3) sc_determinant_of.nd rfl (by first | exact .inl rfl | exact .inr rfl)) gs_nil)))) (gs_cons (g_tup (n := 3) rfl (gs_cons (g_name (i := 4) sc_determinant_of.nd rfl (by first | exact .inl rfl | exact .inr rfl)) (gs_cons (g_name (i := 5) sc_determinant_of.nd rfl (by first | exact .inl rfl | exact .inr rfl)) (gs_cons (g_name (i := 6) sc_determinant_of.nd rfl (by first | exact .inl rfl | exact .inr rfl)) gs_nil)))) (gs_cons (g_tup (n := 3) rfl (gs_cons (g_name (i := 7) sc_determinant_of.nd rfl (by first | exact .inl rfl | exact .inr rfl)) (gs_cons (g_name (i := 8) sc_determinant_of.nd rfl (by first | exact .inl rfl | exact .inr rfl)) (gs_cons (g_name (i := 9) sc_determinant_of.nd rfl (by first | exact .inl rfl | exact .inr rfl)) gs_nil)))) gs_nil)))))
      (ss_one (s_ret (e_op o_add (e_b (e_op o_sub (e_b (e_op o_mul (b_var (pv 1)) (e_b (e_op o_sub (e_b (e_op o_mul (b_var (pv 5)) (b_var (pv 9)))) (e_b (e_op o_mul (b_var (pv 6)) (b_var (pv 8)))))))) (e_b (e_op o_mul (b_var (pv 2)) (e_b (e_op o_sub (e_b (e_op o_mul (b_var (pv 4)) (b_var (pv 9)))) (e_b (e_op o_mul (b_var (pv 6)) (b_var (pv 7)))))))))) (e_b (e_op o_mul (b_var (pv 3)) (e_b (e_op o_sub (e_b (e_op o_mul (b_var (pv 4)) (b_var (pv 8)))) (e_b (e_op o_mul (b_var (pv 5)) (b_var (pv 7))))))))))))
abbrev s_is_turn_of : Stmt := topS 31
abbrev N_is_turn_of : List Str := ["thing", "below", "rows", "row", "at", "to"]
theorem sc_is_turn_of : FnScope N_is_turn_of ["thing"] (defScope s_is_turn_of) := ⟨rfl, rfl, rfl, by decide +kernel, rfl, by decide +kernel, by decide +kernel⟩
def S_is_turn_of : DS := (dSeq (dIfS (dOrT (dNotT (dTru (dIsi "tuple" (dPeek 0)))) (dOrT (dTru (dOp vNe (dCall cLen (dCons (dPeek 0) dNil)) (dCst (.int 2)))) (dOrT (dNotT (dTru (dCallN 1 m_is_number (dCons (dOp vIx (dPeek 0) (dCst (.int 0))) dNil)))) (dTru (dOp (vCmp pLt) (dOp vIx (dPeek 0) (dCst (.int 0))) (dCst (.int 1))))))) (dRet (dCst (.bool false))) dSkip)
    (dSeq (dAsg (dVar 0) (gTp 2 (gsCons (gN 1) (gsCons (gN 2) gsNil))))
    (dSeq (dIfS (dOrT (dNotT (dTru (dIsi "tuple" (dPeek 2)))) (dOrT (dTru (dOp vNe (dCall cLen (dCons (dPeek 2) dNil)) (dCall cLen (dCons (dCst D_SPACE) dNil)))) (dNotT (dTru (dCall cAll (dCons (dOnlyL (dLc (dItems (dVar 2)) (gN 3) dYes (dCallN 1 m_are_three (dCons (dVar 3) dNil)) [3])) dNil)))))) (dRet (dCst (.bool false))) dSkip)
    (dSeq (dIfS (dOrT (dTru (dOp vNe (dCallN 2 m_shortened (dCons (dVar 1) (dCons (dVar 2) dNil))) (dPeek 0))) (dTru (dOp vNe (dCallN 1 m_determinant_of (dCons (dVar 2) dNil)) (dOp vMul (dOp vMul (dPeek 1) (dPeek 1)) (dPeek 1))))) (dRet (dCst (.bool false))) dSkip)
    (dSeq (dFor (dItems (dCst D_SPACE)) (gN 4) (dFor (dItems (dCst D_SPACE)) (gN 5) (dIfS (dTru (dOp vNe (dCallN 2 m_across (dCons (dOp vIx (dPeek 2) (dPeek 4)) (dCons (dOp vIx (dPeek 2) (dPeek 5)) dNil))) (dIf (dTru (dOp vEq (dPeek 4) (dPeek 5))) (dOp vMul (dPeek 1) (dPeek 1)) (dCst (.int 0))))) (dRet (dCst (.bool false))) dSkip)))
    (dRet (dCst (.bool true))))))))
def m_is_turn_of : List D → Cm D := fnD 6 S_is_turn_of
theorem ok_is_turn_of (A0 : DefAt K mg "is_turn_of" s_is_turn_of ["thing"]) (h_is_number : Has P w K mg base 1 "is_number" ["thing"] m_is_number) (h_are_three : Has P w K mg base 2 "are_three" ["thing"] m_are_three) (h_shortened : Has P w K mg base 1 "shortened" ["below", "rows"] m_shortened) (h_determinant_of : Has P w K mg base 1 "determinant_of" ["rows"] m_determinant_of) (h_across : Has P w K mg base 1 "across" ["one", "other"] m_across) (n_all : mg "all" = none) (n_isinstance : mg "isinstance" = none) (n_len : mg "len" = none) (n_tuple : mg "tuple" = none) (c_SPACE : CstAt K mg "SPACE" D_SPACE) : Has P w K mg base 3 "is_turn_of" ["thing"] m_is_turn_of :=
  has_mk 2 A0 sc_is_turn_of S_is_turn_of fun f cdv A outer sh H hr =>
    (ss_cons (s_if (PW.pt (w_or (t_not (t_val (e_isi (by rfl) n_isinstance (by decide +kernel) (by rfl) n_tuple (by decide +kernel) (b_var (pv 0))))) (w_or (t_cmp (o_ne hr.units) (e_b (e_callB k_len (by rfl) n_len (by decide +kernel) (ab_cons (b_var (pv 0)) ab_nil))) (e_b e_int) (nomark _)) (w_or (t_not (t_val (e_callH h_is_number (hr.mono (by decide)) (by rfl) (a_cons (e_ix x_ix (b_var (pv 0)) (e_b e_int) (fun _ _ => rfl)) a_nil)))) (w_or1 (t_cmp o_lt (e_b (e_ix x_ix (b_var (pv 0)) (e_b e_int) (fun _ _ => rfl))) (e_b e_int) (nomark _))))))) (ss_one (s_ret e_bl)) ss_nil)
      (ss_cons (s_asg (e_var (pv 0)) (g_tup (n := 2) rfl (gs_cons (g_name (i := 1) sc_is_turn_of.nd rfl (by first | exact .inl rfl | exact .inr rfl)) (gs_cons (g_name (i := 2) sc_is_turn_of.nd rfl (by first | exact .inl rfl | exact .inr rfl)) gs_nil))))
      (ss_cons (s_if (PW.pt (w_or (t_not (t_val (e_isi (by rfl) n_isinstance (by decide +kernel) (by rfl) n_tuple (by decide +kernel) (b_var (pv 2))))) (w_or (t_cmp (o_ne hr.units) (e_b (e_callB k_len (by rfl) n_len (by decide +kernel) (ab_cons (b_var (pv 2)) ab_nil))) (e_b (e_callB k_len (by rfl) n_len (by decide +kernel) (ab_cons (e_b (e_cst c_SPACE (by rfl))) ab_nil))) (nomark _)) (w_or1 (t_not (t_val (e_callB (k_all rfl) (by rfl) n_all (by decide +kernel) (ab_cons (e_b (e_f (f_lc (own := [("row", 3)]) rfl sc_is_turn_of.nd (i_seq (e_var (pv 2))) (blkOk_by (N := N_is_turn_of) (sc := (defScope s_is_turn_of)) (by decide +kernel)) (fun _ _ _ _ _ => (g_name (i := 3) sc_is_turn_of.nd rfl (by first | exact .inl rfl | exact .inr rfl))) (fun _ _ _ _ _ => ts_nil) (fun _ _ _ _ _ => (e_callH h_are_three (hr.mono (by decide)) (by rfl) (a_cons (e_var (pv 3)) a_nil))) (by decide)))) ab_nil)))))))) (ss_one (s_ret e_bl)) ss_nil)
      (ss_cons (s_if (PW.pt (w_or (t_cmp (o_ne hr.units) (e_b (e_callH h_shortened (hr.mono (by decide)) (by rfl) (a_cons (e_var (pv 1)) (a_cons (e_var (pv 2)) a_nil)))) (b_var (pv 0)) (nomark _)) (w_or1 (t_cmp (o_ne hr.units) (e_b (e_callH h_determinant_of (hr.mono (by decide)) (by rfl) (a_cons (e_var (pv 2)) a_nil))) (e_b (e_op o_mul (e_b (e_op o_mul (b_var (pv 1)) (b_var (pv 1)))) (b_var (pv 1)))) (nomark _))))) (ss_one (s_ret e_bl)) ss_nil)
      (ss_cons (s_for PassesOwn.never rfl (i_seq (e_cst c_SPACE (by rfl))) (g_name (i := 4) sc_is_turn_of.nd rfl (by first | exact .inl rfl | exact .inr rfl)) (ss_one (s_for PassesOwn.never rfl (i_seq (e_cst c_SPACE (by rfl))) (g_name (i := 5) sc_is_turn_of.nd rfl (by first | exact .inl rfl | exact .inr rfl)) (ss_one (s_if (t_cmp (o_ne hr.units) (e_b (e_callH h_across (hr.mono (by decide)) (by rfl) (a_cons (e_ix x_ix (b_var (pv 2)) (b_var (pv 4)) (fun _ _ => rfl)) (a_cons (e_ix x_ix (b_var (pv 2)) (b_var (pv 5)) (fun _ _ => rfl)) a_nil)))) (e_b (e_ifExp (t_cmp (o_eq hr.units) (b_var (pv 4)) (b_var (pv 5)) (nomark _)) (e_op o_mul (b_var (pv 1)) (b_var (pv 1))) e_int)) (nomark _)) (ss_one (s_ret e_bl)) ss_nil)))))
      (ss_one (s_ret e_bl)))))))
abbrev s_unshortened : Stmt := topS 32
abbrev N_unshortened : List Str := ["quad", "a", "b", "c", "d", "first", "second", "third"]
theorem sc_unshortened : FnScope N_unshortened ["quad"] (defScope s_unshortened) := ⟨rfl, rfl, rfl, by decide +kernel, rfl, by decide +kernel, by decide +kernel⟩
def S_unshortened : DS := (dSeq (dAsg (dVar 0) (gTp 4 (gsCons (gN 1) (gsCons (gN 2) (gsCons (gN 3) (gsCons (gN 4) gsNil))))))
    (dSeq (dSet 5 (dTupF (dCons (dOp vSub (dOp vSub (dOp vAdd (dOp vMul (dPeek 1) (dPeek 1)) (dOp vMul (dPeek 2) (dPeek 2))) (dOp vMul (dPeek 3) (dPeek 3))) (dOp vMul (dPeek 4) (dPeek 4))) (dCons (dOp vMul (dCst (.int 2)) (dOp vSub (dOp vMul (dPeek 2) (dPeek 3)) (dOp vMul (dPeek 1) (dPeek 4)))) (dCons (dOp vMul (dCst (.int 2)) (dOp vAdd (dOp vMul (dPeek 2) (dPeek 4)) (dOp vMul (dPeek 1) (dPeek 3)))) dNil)))))
    (dSeq (dSet 6 (dTupF (dCons (dOp vMul (dCst (.int 2)) (dOp vAdd (dOp vMul (dPeek 2) (dPeek 3)) (dOp vMul (dPeek 1) (dPeek 4)))) (dCons (dOp vSub (dOp vAdd (dOp vSub (dOp vMul (dPeek 1) (dPeek 1)) (dOp vMul (dPeek 2) (dPeek 2))) (dOp vMul (dPeek 3) (dPeek 3))) (dOp vMul (dPeek 4) (dPeek 4))) (dCons (dOp vMul (dCst (.int 2)) (dOp vSub (dOp vMul (dPeek 3) (dPeek 4)) (dOp vMul (dPeek 1) (dPeek 2)))) dNil)))))
    (dSeq (dSet 7 (dTupF (dCons (dOp vMul (dCst (.int 2)) (dOp vSub (dOp vMul (dPeek 2) (dPeek 4)) (dOp vMul (dPeek 1) (dPeek 3)))) (dCons (dOp vMul (dCst (.int 2)) (dOp vAdd (dOp vMul (dPeek 3) (dPeek 4)) (dOp vMul (dPeek 1) (dPeek 2)))) (dCons (dOp vAdd (dOp vSub (dOp vSub (dOp vMul (dPeek 1) (dPeek 1)) (dOp vMul (dPeek 2) (dPeek 2))) (dOp vMul (dPeek 3) (dPeek 3))) (dOp vMul (dPeek 4) (dPeek 4))) dNil)))))
    (dRet (dTupF (dCons (dOp vAdd (dOp vAdd (dOp vAdd (dOp vMul (dPeek 1) (dPeek 1)) (dOp vMul (dPeek 2) (dPeek 2))) (dOp vMul (dPeek 3) (dPeek 3))) (dOp vMul (dPeek 4) (dPeek 4))) (dCons (dTupF (dCons (dVar 5) (dCons (dVar 6) (dCons (dVar 7) dNil)))) dNil))))))))
def m_unshortened : List D → Cm D := fnD 8 S_unshortened
theorem ok_unshortened (A0 : DefAt K mg "unshortened" s_unshortened ["quad"]) : Has P w K mg base 1 "unshortened" ["quad"] m_unshortened :=
  has_mk 0 A0 sc_unshortened S_unshortened fun f cdv A outer sh H hr =>
    (ss_cons (s_asg (e_var (pv 0)) (g_tup (n := 4) rfl (gs_cons (g_name (i := 1) sc_unshortened.nd rfl (by first | exact .inl rfl | exact .inr rfl)) (gs_cons (g_name (i := 2) sc_unshortened.nd rfl (by first | exact .inl rfl | exact .inr rfl)) (gs_cons (g_name (i := 3) sc_unshortened.nd rfl (by first | exact .inl rfl | exact .inr rfl)) (gs_cons (g_name (i := 4) sc_unshortened.nd rfl (by first | exact .inl rfl | exact .inr rfl)) gs_nil))))))
      (ss_cons (s_set (i := 5) sc_unshortened.nd rfl (by first | exact .inl rfl | exact .inr rfl) (e_tup (a_cons (e_op o_sub (e_b (e_op o_sub (e_b (e_op o_add (e_b (e_op o_mul (b_var (pv 1)) (b_var (pv 1)))) (e_b (e_op o_mul (b_var (pv 2)) (b_var (pv 2)))))) (e_b (e_op o_mul (b_var (pv 3)) (b_var (pv 3)))))) (e_b (e_op o_mul (b_var (pv 4)) (b_var (pv 4))))) (a_cons (e_op o_mul (e_b e_int) (e_b (e_op o_sub (e_b (e_op o_mul (b_var (pv 2)) (b_var (pv 3)))) (e_b (e_op o_mul (b_var (pv 1)) (b_var (pv 4))))))) (a_cons (e_op o_mul (e_b e_int) (e_b (e_op o_add (e_b (e_op o_mul (b_var (pv 2)) (b_var (pv 4)))) (e_b (e_op o_mul (b_var (pv 1)) (b_var (pv 3))))))) a_nil)))))
      (ss_cons (s_set (i := 6) sc_unshortened.nd rfl (by first | exact .inl rfl | exact .inr rfl) (e_tup (a_cons (e_op o_mul (e_b e_int) (e_b (e_op o_add (e_b (e_op o_mul (b_var (pv 2)) (b_var (pv 3)))) (e_b (e_op o_mul (b_var (pv 1)) (b_var (pv 4))))))) (a_cons (e_op o_sub (e_b (e_op o_add (e_b (e_op o_sub (e_b (e_op o_mul (b_var (pv 1)) (b_var (pv 1)))) (e_b (e_op o_mul (b_var (pv 2)) (b_var (pv 2)))))) (e_b (e_op o_mul (b_var (pv 3)) (b_var (pv 3)))))) (e_b (e_op o_mul (b_var (pv 4)) (b_var (pv 4))))) (a_cons (e_op o_mul (e_b e_int) (e_b (e_op o_sub (e_b (e_op o_mul (b_var (pv 3)) (b_var (pv 4)))) (e_b (e_op o_mul (b_var (pv 1)) (b_var (pv 2))))))) a_nil)))))
      (ss_cons (s_set (i := 7) sc_unshortened.nd rfl (by first | exact .inl rfl | exact .inr rfl) (e_tup (a_cons (e_op o_mul (e_b e_int) (e_b (e_op o_sub (e_b (e_op o_mul (b_var (pv 2)) (b_var (pv 4)))) (e_b (e_op o_mul (b_var (pv 1)) (b_var (pv 3))))))) (a_cons (e_op o_mul (e_b e_int) (e_b (e_op o_add (e_b (e_op o_mul (b_var (pv 3)) (b_var (pv 4)))) (e_b (e_op o_mul (b_var (pv 1)) (b_var (pv 2))))))) (a_cons (e_op o_add (e_b (e_op o_sub (e_b (e_op o_sub (e_b (e_op o_mul (b_var (pv 1)) (b_var (pv 1)))) (e_b (e_op o_mul (b_var (pv 2)) (b_var (pv 2)))))) (e_b (e_op o_mul (b_var (pv 3)) (b_var (pv 3)))))) (e_b (e_op o_mul (b_var (pv 4)) (b_var (pv 4))))) a_nil)))))
      (ss_one (s_ret (e_tup (a_cons (e_op o_add (e_b (e_op o_add (e_b (e_op o_add (e_b (e_op o_mul (b_var (pv 1)) (b_var (pv 1)))) (e_b (e_op o_mul (b_var (pv 2)) (b_var (pv 2)))))) (e_b (e_op o_mul (b_var (pv 3)) (b_var (pv 3)))))) (e_b (e_op o_mul (b_var (pv 4)) (b_var (pv 4))))) (a_cons (e_tup (a_cons (e_var (pv 5)) (a_cons (e_var (pv 6)) (a_cons (e_var (pv 7)) a_nil)))) a_nil)))))))))
abbrev s_turn_by : Stmt := topS 33
abbrev N_turn_by : List Str := ["quad", "below", "rows"]
theorem sc_turn_by : FnScope N_turn_by ["quad"] (defScope s_turn_by) := ⟨rfl, rfl, rfl, by decide +kernel, rfl, by decide +kernel, by decide +kernel⟩
def S_turn_by : DS := (dSeq (dAsg (dCallN 1 m_unshortened (dCons (dVar 0) dNil)) (gTp 2 (gsCons (gN 1) (gsCons (gN 2) gsNil))))
    (dRet (dCallN 2 m_shortened (dCons (dVar 1) (dCons (dVar 2) dNil)))))
def m_turn_by : List D → Cm D := fnD 3 S_turn_by
theorem ok_turn_by (A0 : DefAt K mg "turn_by" s_turn_by ["quad"]) (h_unshortened : Has P w K mg base 1 "unshortened" ["quad"] m_unshortened) (h_shortened : Has P w K mg base 1 "shortened" ["below", "rows"] m_shortened) : Has P w K mg base 2 "turn_by" ["quad"] m_turn_by :=
  has_mk 1 A0 sc_turn_by S_turn_by fun f cdv A outer sh H hr =>
    (ss_cons (s_asg (e_callH h_unshortened (hr.mono (by decide)) (by rfl) (a_cons (e_var (pv 0)) a_nil)) (g_tup (n := 2) rfl (gs_cons (g_name (i := 1) sc_turn_by.nd rfl (by first | exact .inl rfl | exact .inr rfl)) (gs_cons (g_name (i := 2) sc_turn_by.nd rfl (by first | exact .inl rfl | exact .inr rfl)) gs_nil))))
      (ss_one (s_ret (e_callH h_shortened (hr.mono (by decide)) (by rfl) (a_cons (e_var (pv 1)) (a_cons (e_var (pv 2)) a_nil))))))
abbrev s_turns_behind : Stmt := topS 34
abbrev N_turns_behind : List Str := ["one", "other", "columns", "rows", "column", "row"]
theorem sc_turns_behind : FnScope N_turns_behind ["one", "other"] (defScope s_turns_behind) := ⟨rfl, rfl, rfl, by decide +kernel, rfl, by decide +kernel, by decide +kernel⟩
def S_turns_behind : DS := (dSeq (dSet 2 (dZip3 (dCons (dOp vIx (dOp vIx (dPeek 0) (dCst (.int 1))) (dCst (.int 0))) (dCons (dOp vIx (dOp vIx (dPeek 0) (dCst (.int 1))) (dCst (.int 1))) (dCons (dOp vIx (dOp vIx (dPeek 0) (dCst (.int 1))) (dCst (.int 2))) dNil)))))
    (dSeq (dSet 3 (dCall cTuple (dCons (dOnlyL (dLc (dItems (dOp vIx (dPeek 1) (dCst (.int 1)))) (gN 5) dYes (dCall cTuple (dCons (dOnlyL (dLc (dItems (dVar 2)) (gN 4) dYes (dCallN 2 m_across (dCons (dVar 5) (dCons (dVar 4) dNil))) [4])) dNil)) [5])) dNil)))
    (dRet (dCallN 2 m_shortened (dCons (dOp vMul (dOp vIx (dPeek 0) (dCst (.int 0))) (dOp vIx (dPeek 1) (dCst (.int 0)))) (dCons (dVar 3) dNil))))))
def m_turns_behind : List D → Cm D := fnD 6 S_turns_behind
theorem ok_turns_behind (A0 : DefAt K mg "turns_behind" s_turns_behind ["one", "other"]) (h_across : Has P w K mg base 1 "across" ["one", "other"] m_across) (h_shortened : Has P w K mg base 1 "shortened" ["below", "rows"] m_shortened) (n_tuple : mg "tuple" = none) (n_zip : mg "zip" = none) : Has P w K mg base 2 "turns_behind" ["one", "other"] m_turns_behind :=
  has_mk 1 A0 sc_turns_behind S_turns_behind fun f cdv A outer sh H hr =>
    (ss_cons (s_set (i := 2) sc_turns_behind.nd rfl (by first | exact .inl rfl | exact .inr rfl) (e_zip3t rfl (by rfl) n_tuple (by rfl) n_zip (a_cons (e_ix x_ix (e_b (e_ix x_ix (b_var (pv 0)) (e_b e_int) (fun _ _ => rfl))) (e_b e_int) (fun _ _ => rfl)) (a_cons (e_ix x_ix (e_b (e_ix x_ix (b_var (pv 0)) (e_b e_int) (fun _ _ => rfl))) (e_b e_int) (fun _ _ => rfl)) (a_cons (e_ix x_ix (e_b (e_ix x_ix (b_var (pv 0)) (e_b e_int) (fun _ _ => rfl))) (e_b e_int) (fun _ _ => rfl)) a_nil)))))
      (ss_cons (s_set (i := 3) sc_turns_behind.nd rfl (by first | exact .inl rfl | exact .inr rfl) (e_callTy k_tuple (by rfl) n_tuple (by decide +kernel) (ab_cons (e_b (e_f (f_lc (own := [("row", 5)]) rfl sc_turns_behind.nd (i_seq (e_ix x_ix (b_var (pv 1)) (e_b e_int) (fun _ _ => rfl))) (blkOk_by (N := N_turns_behind) (sc := (defScope s_turns_behind)) (by decide +kernel)) (fun _ _ _ _ _ => (g_name (i := 5) sc_turns_behind.nd rfl (by first | exact .inl rfl | exact .inr rfl))) (fun _ _ _ _ _ => ts_nil) (fun _ _ _ _ _ => (e_callTy k_tuple (by rfl) n_tuple (by decide +kernel) (ab_cons (e_b (e_f (f_lc (own := [("column", 4)]) rfl sc_turns_behind.nd (i_seq (e_var (pv 2))) (blkOk_by (N := N_turns_behind) (sc := (relS _ (defScope s_turns_behind))) (by decide +kernel)) (fun _ _ _ _ _ => (g_name (i := 4) sc_turns_behind.nd rfl (by first | exact .inl rfl | exact .inr rfl))) (fun _ _ _ _ _ => ts_nil) (fun _ _ _ _ _ => (e_callH h_across (hr.mono (by decide)) (by rfl) (a_cons (e_var (pv 5)) (a_cons (e_var (pv 4)) a_nil)))) (by decide)))) ab_nil))) (by decide)))) ab_nil)))
      (ss_one (s_ret (e_callH h_shortened (hr.mono (by decide)) (by rfl) (a_cons (e_op o_mul (e_b (e_ix x_ix (b_var (pv 0)) (e_b e_int) (fun _ _ => rfl))) (e_b (e_ix x_ix (b_var (pv 1)) (e_b e_int) (fun _ _ => rfl)))) (a_cons (e_var (pv 3)) a_nil)))))))
abbrev s_turn_of : Stmt := topS 35
abbrev N_turn_of : List Str := ["quad"]
theorem sc_turn_of : FnScope N_turn_of ["quad"] (defScope s_turn_of) := ⟨rfl, rfl, rfl, by decide +kernel, rfl, by decide +kernel, by decide +kernel⟩
def S_turn_of : DS := (dSeq (dDrop (dCallN 1 m_need_quad (dCons (dVar 0) dNil)))
    (dSeq (dIfS (dTru (dOp vEq (dPeek 0) (dCst D_NOUGHT))) dNever dSkip)
    (dRet (dCallN 1 m_turn_by (dCons (dVar 0) dNil)))))
def m_turn_of : List D → Cm D := fnD 1 S_turn_of
theorem ok_turn_of (A0 : DefAt K mg "turn_of" s_turn_of ["quad"]) (h_need_quad : Has P w K mg base 4 "need_quad" ["quad"] m_need_quad) (h_turn_by : Has P w K mg base 2 "turn_by" ["quad"] m_turn_by) (c_NOUGHT : CstAt K mg "NOUGHT" D_NOUGHT) : Has P w K mg base 5 "turn_of" ["quad"] m_turn_of :=
  has_mk 4 A0 sc_turn_of S_turn_of fun f cdv A outer sh H hr =>
    (ss_cons (s_drop (e_callH h_need_quad (hr.mono (by decide)) (by rfl) (a_cons (e_var (pv 0)) a_nil)))
      (ss_cons (s_if (t_cmp (o_eq hr.units) (b_var (pv 0)) (e_b (e_cst c_NOUGHT (by rfl))) (nomark _)) (ss_one s_never) ss_nil)
      (ss_one (s_ret (e_callH h_turn_by (hr.mono (by decide)) (by rfl) (a_cons (e_var (pv 0)) a_nil))))))
abbrev s_turns_then : Stmt := topS 36
abbrev N_turns_then : List Str := ["one", "other"]
theorem sc_turns_then : FnScope N_turns_then ["one", "other"] (defScope s_turns_then) := ⟨rfl, rfl, rfl, by decide +kernel, rfl, by decide +kernel, by decide +kernel⟩
def S_turns_then : DS := (dSeq (dIfS (dNotT (dTru (dCallN 1 m_is_turn_of (dCons (dVar 0) dNil)))) dNever dSkip)
    (dSeq (dIfS (dNotT (dTru (dCallN 1 m_is_turn_of (dCons (dVar 1) dNil)))) dNever dSkip)
    (dRet (dCallN 2 m_turns_behind (dCons (dVar 0) (dCons (dVar 1) dNil))))))
def m_turns_then : List D → Cm D := fnD 2 S_turns_then
theorem ok_turns_then (A0 : DefAt K mg "turns_then" s_turns_then ["one", "other"]) (h_is_turn_of : Has P w K mg base 3 "is_turn_of" ["thing"] m_is_turn_of) (h_turns_behind : Has P w K mg base 2 "turns_behind" ["one", "other"] m_turns_behind) : Has P w K mg base 4 "turns_then" ["one", "other"] m_turns_then :=
  has_mk 3 A0 sc_turns_then S_turns_then fun f cdv A outer sh H hr =>
    (ss_cons (s_if (t_not (t_val (e_callH h_is_turn_of (hr.mono (by decide)) (by rfl) (a_cons (e_var (pv 0)) a_nil)))) (ss_one s_never) ss_nil)
      (ss_cons (s_if (t_not (t_val (e_callH h_is_turn_of (hr.mono (by decide)) (by rfl) (a_cons (e_var (pv 1)) a_nil)))) (ss_one s_never) ss_nil)
      (ss_one (s_ret (e_callH h_turns_behind (hr.mono (by decide)) (by rfl) (a_cons (e_var (pv 0)) (a_cons (e_var (pv 1)) a_nil)))))))
abbrev s_is_prime : Stmt := topS 39
abbrev N_is_prime : List Str := ["thing", "number"]
theorem sc_is_prime : FnScope N_is_prime ["thing"] (defScope s_is_prime) := ⟨rfl, rfl, rfl, by decide +kernel, rfl, by decide +kernel, by decide +kernel⟩
def S_is_prime : DS := (dSeq (dIfS (dOrT (dNotT (dTru (dCallN 1 m_is_number (dCons (dVar 0) dNil)))) (dNotT (dTru (dChain (vCmp pLt) (vCmp pLt) (dCst (.int 1)) (dPeek 0) (dCst D_MOST_PRIME))))) (dRet (dCst (.bool false))) dSkip)
    (dRet (dCall cAll (dCons (dOnlyL (dLc (dRng2 (dCons (dCst (.int 2)) (dCons (dVar 0) dNil))) (gN 1) (dTru (dOp (vCmp pLe) (dOp vMul (dPeek 1) (dPeek 1)) (dPeek 0))) (dOp vNe (dOp vMod (dPeek 0) (dPeek 1)) (dCst (.int 0))) [1])) dNil))))
def m_is_prime : List D → Cm D := fnD 2 S_is_prime
theorem ok_is_prime (A0 : DefAt K mg "is_prime" s_is_prime ["thing"]) (h_is_number : Has P w K mg base 1 "is_number" ["thing"] m_is_number) (n_all : mg "all" = none) (n_range : mg "range" = none) (c_MOST_PRIME : CstAt K mg "MOST_PRIME" D_MOST_PRIME) : Has P w K mg base 2 "is_prime" ["thing"] m_is_prime :=
  has_mk 1 A0 sc_is_prime S_is_prime fun f cdv A outer sh H hr =>
    (ss_cons (s_if (PW.pt (w_or (t_not (t_val (e_callH h_is_number (hr.mono (by decide)) (by rfl) (a_cons (e_var (pv 0)) a_nil)))) (w_or1 (t_not (t_chain o_lt o_lt (e_b e_int) (b_var (pv 0)) (e_b (e_cst c_MOST_PRIME (by rfl)))))))) (ss_one (s_ret e_bl)) ss_nil)
      (ss_one (s_ret (e_callB (k_all rfl) (by rfl) n_all (by decide +kernel) (ab_cons (e_b (e_f (f_lc (own := [("number", 1)]) rfl sc_is_prime.nd (i_rng2 (by rfl) n_range (a_cons e_int (a_cons (e_var (pv 0)) a_nil))) (blkOk_by (N := N_is_prime) (sc := (defScope s_is_prime)) (by decide +kernel)) (fun _ _ _ _ _ => (g_name (i := 1) sc_is_prime.nd rfl (by first | exact .inl rfl | exact .inr rfl))) (fun _ _ _ _ _ => (ts_one (t_cmp o_le (e_b (e_op o_mul (b_var (pv 1)) (b_var (pv 1)))) (b_var (pv 0)) (nomark _)))) (fun _ _ _ _ _ => (e_cmp (o_ne hr.units) (e_b (e_op o_mod (b_var (pv 0)) (b_var (pv 1)))) (e_b e_int) (nomark _))) (by decide)))) ab_nil)))))
abbrev s_need_prime : Stmt := topS 40
abbrev N_need_prime : List Str := ["prime"]
theorem sc_need_prime : FnScope N_need_prime ["prime"] (defScope s_need_prime) := ⟨rfl, rfl, rfl, by decide +kernel, rfl, by decide +kernel, by decide +kernel⟩
def S_need_prime : DS := (dIfS (dNotT (dTru (dCallN 1 m_is_prime (dCons (dVar 0) dNil)))) dNever dSkip)
def m_need_prime : List D → Cm D := fnD 1 S_need_prime
theorem ok_need_prime (A0 : DefAt K mg "need_prime" s_need_prime ["prime"]) (h_is_prime : Has P w K mg base 2 "is_prime" ["thing"] m_is_prime) : Has P w K mg base 3 "need_prime" ["prime"] m_need_prime :=
  has_mk 2 A0 sc_need_prime S_need_prime fun f cdv A outer sh H hr =>
    (ss_one (s_if (t_not (t_val (e_callH h_is_prime (hr.mono (by decide)) (by rfl) (a_cons (e_var (pv 0)) a_nil)))) (ss_one s_never) ss_nil))
abbrev s_need_odd : Stmt := topS 42
abbrev N_need_odd : List Str := ["prime"]
theorem sc_need_odd : FnScope N_need_odd ["prime"] (defScope s_need_odd) := ⟨rfl, rfl, rfl, by decide +kernel, rfl, by decide +kernel, by decide +kernel⟩
def S_need_odd : DS := (dSeq (dDrop (dCallN 1 m_need_prime (dCons (dVar 0) dNil)))
    (dIfS (dTru (dOp vEq (dPeek 0) (dCst (.int 2)))) dNever dSkip))
def m_need_odd : List D → Cm D := fnD 1 S_need_odd
theorem ok_need_odd (A0 : DefAt K mg "need_odd" s_need_odd ["prime"]) (h_need_prime : Has P w K mg base 3 "need_prime" ["prime"] m_need_prime) : Has P w K mg base 4 "need_odd" ["prime"] m_need_odd :=
  has_mk 3 A0 sc_need_odd S_need_odd fun f cdv A outer sh H hr =>
    (ss_cons (s_drop (e_callH h_need_prime (hr.mono (by decide)) (by rfl) (a_cons (e_var (pv 0)) a_nil)))
      (ss_one (s_if (t_cmp (o_eq hr.units) (b_var (pv 0)) (e_b e_int) (nomark _)) (ss_one s_never) ss_nil)))
abbrev s_is_table_of : Stmt := topS 43
abbrev N_is_table_of : List Str := ["prime", "thing", "one"]
theorem sc_is_table_of : FnScope N_is_table_of ["prime", "thing"] (defScope s_is_table_of) := ⟨rfl, rfl, rfl, by decide +kernel, rfl, by decide +kernel, by decide +kernel⟩
def S_is_table_of : DS := (dSeq (dIfS (dOrT (dNotT (dTru (dIsi "tuple" (dPeek 1)))) (dTru (dOp vNe (dCall cLen (dCons (dPeek 1) dNil)) (dCst (.int 4))))) (dRet (dCst (.bool false))) dSkip)
    (dRet (dCall cAll (dCons (dOnlyL (dLc (dItems (dVar 1)) (gN 2) dYes (dAndV (dCallN 1 m_is_number (dCons (dVar 2) dNil)) (dChain (vCmp pLe) (vCmp pLt) (dCst (.int 0)) (dPeek 2) (dPeek 0))) [2])) dNil))))
def m_is_table_of : List D → Cm D := fnD 3 S_is_table_of
theorem ok_is_table_of (A0 : DefAt K mg "is_table_of" s_is_table_of ["prime", "thing"]) (h_is_number : Has P w K mg base 1 "is_number" ["thing"] m_is_number) (n_all : mg "all" = none) (n_isinstance : mg "isinstance" = none) (n_len : mg "len" = none) (n_tuple : mg "tuple" = none) : Has P w K mg base 2 "is_table_of" ["prime", "thing"] m_is_table_of :=
  has_mk 1 A0 sc_is_table_of S_is_table_of fun f cdv A outer sh H hr =>
    (ss_cons (s_if (PW.pt (w_or (t_not (t_val (e_isi (by rfl) n_isinstance (by decide +kernel) (by rfl) n_tuple (by decide +kernel) (b_var (pv 1))))) (w_or1 (t_cmp (o_ne hr.units) (e_b (e_callB k_len (by rfl) n_len (by decide +kernel) (ab_cons (b_var (pv 1)) ab_nil))) (e_b e_int) (nomark _))))) (ss_one (s_ret e_bl)) ss_nil)
      (ss_one (s_ret (e_callB (k_all rfl) (by rfl) n_all (by decide +kernel) (ab_cons (e_b (e_f (f_lc (own := [("one", 2)]) rfl sc_is_table_of.nd (i_seq (e_var (pv 1))) (blkOk_by (N := N_is_table_of) (sc := (defScope s_is_table_of)) (by decide +kernel)) (fun _ _ _ _ _ => (g_name (i := 2) sc_is_table_of.nd rfl (by first | exact .inl rfl | exact .inr rfl))) (fun _ _ _ _ _ => ts_nil) (fun _ _ _ _ _ => (e_and (e_callH h_is_number (hr.mono (by decide)) (by rfl) (a_cons (e_var (pv 2)) a_nil)) (e_one (e_chain o_le o_lt (e_b e_int) (b_var (pv 2)) (b_var (pv 0)))))) (by decide)))) ab_nil)))))
abbrev s_marks_by : Stmt := topS 44
abbrev N_marks_by : List Str := ["prime", "roots", "number", "e", "left"]
theorem sc_marks_by : FnScope N_marks_by ["prime"] (defScope s_marks_by) := ⟨rfl, rfl, rfl, by decide +kernel, rfl, by decide +kernel, by decide +kernel⟩
def S_marks_by : DS := (dSeq (dSetF 1 dNewD)
    (dSeq (dFor (dRng3 (dCons (dOp vSub (dPeek 0) (dCst (.int 1))) (dCons (dUn vNeg (dCst (.int 1))) (dCons (dUn vNeg (dCst (.int 1))) dNil)))) (gN 2) (dDPut 1 (dOp vMod (dOp vMul (dPeek 2) (dPeek 2)) (dPeek 0)) (dVar 2)))
    (dSeq (dFor (dRng1 (dCons (dVar 0) dNil)) (gN 3) (dSeq (dSet 4 (dOp vMod (dOp vSub (dUn vNeg (dCst (.int 1))) (dOp vMul (dPeek 3) (dPeek 3))) (dPeek 0)))
    (dIfS (dTru (dDIn 1 (dVar 4))) (dRet (dTupF (dCons (dVar 3) (dCons (dDGet 1 (dVar 4)) dNil)))) dSkip)))
    (dRet (dTupF (dCons (dCst (.int 0)) (dCons (dCst (.int 0)) dNil)))))))
def m_marks_by : List D → Cm D := fnD 5 S_marks_by
theorem ok_marks_by (A0 : DefAt K mg "marks_by" s_marks_by ["prime"]) (n_range : mg "range" = none) : Has P w K mg base 1 "marks_by" ["prime"] m_marks_by :=
  has_mk 0 A0 sc_marks_by S_marks_by fun f cdv A outer sh H hr =>
    (ss_cons (s_setF (i := 1) sc_marks_by.nd rfl (by first | exact .inl rfl | exact .inr rfl) f_dnew)
      (ss_cons (s_for PassesOwn.never rfl (i_rng3 (by rfl) n_range (a_cons (e_op o_sub (b_var (pv 0)) (e_b e_int)) (a_cons (e_un u_neg (e_b e_int)) (a_cons (e_un u_neg (e_b e_int)) a_nil)))) (g_name (i := 2) sc_marks_by.nd rfl (by first | exact .inl rfl | exact .inr rfl)) (ss_one (s_dput (i := 1) (hu_of hr) (pv 1) (e_op o_mod (e_b (e_op o_mul (b_var (pv 2)) (b_var (pv 2)))) (b_var (pv 0))) (e_var (pv 2)))))
      (ss_cons (s_for PassesOwn.never rfl (i_rng1 (by rfl) n_range (a_cons (e_var (pv 0)) a_nil)) (g_name (i := 3) sc_marks_by.nd rfl (by first | exact .inl rfl | exact .inr rfl)) (ss_cons (s_set (i := 4) sc_marks_by.nd rfl (by first | exact .inl rfl | exact .inr rfl) (e_op o_mod (e_b (e_op o_sub (e_b (e_un u_neg (e_b e_int))) (e_b (e_op o_mul (b_var (pv 3)) (b_var (pv 3)))))) (b_var (pv 0))))
      (ss_one (s_if (t_din (i := 1) (hu_of hr) (e_var (pv 4)) (pv 1)) (ss_one (s_ret (e_tup (a_cons (e_var (pv 3)) (a_cons (e_dget (i := 1) (hu_of hr) (pv 1) (e_var (pv 4)) (fun _ _ => rfl)) a_nil))))) ss_nil))))
      (ss_one (s_ret (e_tup (a_cons e_int (a_cons e_int a_nil))))))))
abbrev s_half_by : Stmt := topS 45
abbrev N_half_by : List Str := ["prime", "number", "rest"]
theorem sc_half_by : FnScope N_half_by ["prime", "number"] (defScope s_half_by) := ⟨rfl, rfl, rfl, by decide +kernel, rfl, by decide +kernel, by decide +kernel⟩
def S_half_by : DS := (dSeq (dSet 2 (dOp vMod (dPeek 1) (dPeek 0)))
    (dRet (dIf (dTru (dOp vEq (dOp vMod (dPeek 2) (dCst (.int 2))) (dCst (.int 0)))) (dOp vDiv (dPeek 2) (dCst (.int 2))) (dOp vDiv (dOp vAdd (dPeek 2) (dPeek 0)) (dCst (.int 2))))))
def m_half_by : List D → Cm D := fnD 3 S_half_by
theorem ok_half_by (A0 : DefAt K mg "half_by" s_half_by ["prime", "number"]) : Has P w K mg base 1 "half_by" ["prime", "number"] m_half_by :=
  has_mk 0 A0 sc_half_by S_half_by fun f cdv A outer sh H hr =>
    (ss_cons (s_set (i := 2) sc_half_by.nd rfl (by first | exact .inl rfl | exact .inr rfl) (e_op o_mod (b_var (pv 1)) (b_var (pv 0))))
      (ss_one (s_ret (e_ifExp (t_cmp (o_eq hr.units) (e_b (e_op o_mod (b_var (pv 2)) (e_b e_int))) (e_b e_int) (nomark _)) (e_op o_div (b_var (pv 2)) (e_b e_int)) (e_op o_div (e_b (e_op o_add (b_var (pv 2)) (b_var (pv 0)))) (e_b e_int))))))
abbrev s_table_by : Stmt := topS 46
abbrev N_table_by : List Str := ["prime", "quad", "e", "f", "a", "b", "c", "d", "rows", "number"]
theorem sc_table_by : FnScope N_table_by ["prime", "quad"] (defScope s_table_by) := ⟨rfl, rfl, rfl, by decide +kernel, rfl, by decide +kernel, by decide +kernel⟩
def S_table_by : DS := (dSeq (dAsg (dTupF (dCons (dCallN 1 m_marks_by (dCons (dVar 0) dNil)) (dCons (dVar 1) dNil))) (gTp 2 (gsCons (gTp 2 (gsCons (gN 2) (gsCons (gN 3) gsNil))) (gsCons (gTp 4 (gsCons (gN 4) (gsCons (gN 5) (gsCons (gN 6) (gsCons (gN 7) gsNil))))) gsNil))))
    (dSeq (dSet 8 (dTupF (dCons (dOp vSub (dOp vAdd (dPeek 4) (dOp vMul (dPeek 6) (dPeek 2))) (dOp vMul (dPeek 7) (dPeek 3))) (dCons (dOp vSub (dOp vAdd (dOp vMul (dPeek 6) (dPeek 3)) (dOp vMul (dPeek 7) (dPeek 2))) (dPeek 5)) (dCons (dOp vAdd (dOp vAdd (dPeek 5) (dOp vMul (dPeek 6) (dPeek 3))) (dOp vMul (dPeek 7) (dPeek 2))) (dCons (dOp vAdd (dOp vSub (dPeek 4) (dOp vMul (dPeek 6) (dPeek 2))) (dOp vMul (dPeek 7) (dPeek 3))) dNil))))))
    (dRet (dCall cTuple (dCons (dOnlyL (dLc (dItems (dVar 8)) (gN 9) dYes (dCallN 2 m_half_by (dCons (dVar 0) (dCons (dVar 9) dNil))) [9])) dNil)))))
def m_table_by : List D → Cm D := fnD 10 S_table_by
theorem ok_table_by (A0 : DefAt K mg "table_by" s_table_by ["prime", "quad"]) (h_marks_by : Has P w K mg base 1 "marks_by" ["prime"] m_marks_by) (h_half_by : Has P w K mg base 1 "half_by" ["prime", "number"] m_half_by) (n_tuple : mg "tuple" = none) : Has P w K mg base 2 "table_by" ["prime", "quad"] m_table_by :=
  has_mk 1 A0 sc_table_by S_table_by fun f cdv A outer sh H hr =>
    (ss_cons (s_asg (e_tup (a_cons (e_callH h_marks_by (hr.mono (by decide)) (by rfl) (a_cons (e_var (pv 0)) a_nil)) (a_cons (e_var (pv 1)) a_nil))) (g_tup (n := 2) rfl (gs_cons (g_tup (n := 2) rfl (gs_cons (g_name (i := 2) sc_table_by.nd rfl (by first | exact .inl rfl | exact .inr rfl)) (gs_cons (g_name (i := 3) sc_table_by.nd rfl (by first | exact .inl rfl | exact .inr rfl)) gs_nil))) (gs_cons (g_tup (n := 4) rfl (gs_cons (g_name (i := 4) sc_table_by.nd rfl (by first | exact .inl rfl | exact .inr rfl)) (gs_cons (g_name (i := 5) sc_table_by.nd rfl (by first | exact .inl rfl | exact .inr rfl)) (gs_cons (g_name (i := 6) sc_table_by.nd rfl (by first | exact .inl rfl | exact .inr rfl)) (gs_cons (g_name (i := 7) sc_table_by.nd rfl (by first | exact .inl rfl | exact .inr rfl)) gs_nil))))) gs_nil))))
      (ss_cons (s_set (i := 8) sc_table_by.nd rfl (by first | exact .inl rfl | exact .inr rfl) (e_tup (a_cons (e_op o_sub (e_b (e_op o_add (b_var (pv 4)) (e_b (e_op o_mul (b_var (pv 6)) (b_var (pv 2)))))) (e_b (e_op o_mul (b_var (pv 7)) (b_var (pv 3))))) (a_cons (e_op o_sub (e_b (e_op o_add (e_b (e_op o_mul (b_var (pv 6)) (b_var (pv 3)))) (e_b (e_op o_mul (b_var (pv 7)) (b_var (pv 2)))))) (b_var (pv 5))) (a_cons (e_op o_add (e_b (e_op o_add (b_var (pv 5)) (e_b (e_op o_mul (b_var (pv 6)) (b_var (pv 3)))))) (e_b (e_op o_mul (b_var (pv 7)) (b_var (pv 2))))) (a_cons (e_op o_add (e_b (e_op o_sub (b_var (pv 4)) (e_b (e_op o_mul (b_var (pv 6)) (b_var (pv 2)))))) (e_b (e_op o_mul (b_var (pv 7)) (b_var (pv 3))))) a_nil))))))
      (ss_one (s_ret (e_callTy k_tuple (by rfl) n_tuple (by decide +kernel) (ab_cons (e_b (e_f (f_lc (own := [("number", 9)]) rfl sc_table_by.nd (i_seq (e_var (pv 8))) (blkOk_by (N := N_table_by) (sc := (defScope s_table_by)) (by decide +kernel)) (fun _ _ _ _ _ => (g_name (i := 9) sc_table_by.nd rfl (by first | exact .inl rfl | exact .inr rfl))) (fun _ _ _ _ _ => ts_nil) (fun _ _ _ _ _ => (e_callH h_half_by (hr.mono (by decide)) (by rfl) (a_cons (e_var (pv 0)) (a_cons (e_var (pv 9)) a_nil)))) (by decide)))) ab_nil))))))
abbrev s_then_by : Stmt := topS 47
abbrev N_then_by : List Str := ["prime", "one", "other", "a", "b", "c", "d", "e", "f", "g", "h"]
theorem sc_then_by : FnScope N_then_by ["prime", "one", "other"] (defScope s_then_by) := ⟨rfl, rfl, rfl, by decide +kernel, rfl, by decide +kernel, by decide +kernel⟩
def S_then_by : DS := (dSeq (dAsg (dTupF (dCons (dVar 1) (dCons (dVar 2) dNil))) (gTp 2 (gsCons (gTp 4 (gsCons (gN 3) (gsCons (gN 4) (gsCons (gN 5) (gsCons (gN 6) gsNil))))) (gsCons (gTp 4 (gsCons (gN 7) (gsCons (gN 8) (gsCons (gN 9) (gsCons (gN 10) gsNil))))) gsNil))))
    (dRet (dTupF (dCons (dOp vMod (dOp vAdd (dOp vMul (dPeek 3) (dPeek 7)) (dOp vMul (dPeek 4) (dPeek 9))) (dPeek 0)) (dCons (dOp vMod (dOp vAdd (dOp vMul (dPeek 3) (dPeek 8)) (dOp vMul (dPeek 4) (dPeek 10))) (dPeek 0)) (dCons (dOp vMod (dOp vAdd (dOp vMul (dPeek 5) (dPeek 7)) (dOp vMul (dPeek 6) (dPeek 9))) (dPeek 0)) (dCons (dOp vMod (dOp vAdd (dOp vMul (dPeek 5) (dPeek 8)) (dOp vMul (dPeek 6) (dPeek 10))) (dPeek 0)) dNil)))))))
def m_then_by : List D → Cm D := fnD 11 S_then_by
theorem ok_then_by (A0 : DefAt K mg "then_by" s_then_by ["prime", "one", "other"]) : Has P w K mg base 1 "then_by" ["prime", "one", "other"] m_then_by :=
  has_mk 0 A0 sc_then_by S_then_by fun f cdv A outer sh H hr =>
    (ss_cons (s_asg (e_tup (a_cons (e_var (pv 1)) (a_cons (e_var (pv 2)) a_nil))) (g_tup (n := 2) rfl (gs_cons (g_tup (n := 4) rfl (gs_cons (g_name (i := 3) sc_then_by.nd rfl (by first | exact .inl rfl | exact .inr rfl)) (gs_cons (g_name (i := 4) sc_then_by.nd rfl (by first | exact .inl rfl | exact .inr rfl)) (gs_cons (g_name (i := 5) sc_then_by.nd rfl (by first | exact .inl rfl | exact .inr rfl)) (gs_cons (g_name (i := 6) sc_then_by.nd rfl (by first | exact .inl rfl | exact .inr rfl)) gs_nil))))) (gs_cons (g_tup (n := 4) rfl (gs_cons (g_name (i := 7) sc_then_by.nd rfl (by first | exact .inl rfl | exact .inr rfl)) (gs_cons (g_name (i := 8) sc_then_by.nd rfl (by first | exact .inl rfl | exact .inr rfl)) (gs_cons (g_name (i := 9) sc_then_by.nd rfl (by first | exact .inl rfl | exact .inr rfl)) (gs_cons (g_name (i := 10) sc_then_by.nd rfl (by first | exact .inl rfl | exact .inr rfl)) gs_nil))))) gs_nil))))
      (ss_one (s_ret (e_tup (a_cons (e_op o_mod (e_b (e_op o_add (e_b (e_op o_mul (b_var (pv 3)) (b_var (pv 7)))) (e_b (e_op o_mul (b_var (pv 4)) (b_var (pv 9)))))) (b_var (pv 0))) (a_cons (e_op o_mod (e_b (e_op o_add (e_b (e_op o_mul (b_var (pv 3)) (b_var (pv 8)))) (e_b (e_op o_mul (b_var (pv 4)) (b_var (pv 10)))))) (b_var (pv 0))) (a_cons (e_op o_mod (e_b (e_op o_add (e_b (e_op o_mul (b_var (pv 5)) (b_var (pv 7)))) (e_b (e_op o_mul (b_var (pv 6)) (b_var (pv 9)))))) (b_var (pv 0))) (a_cons (e_op o_mod (e_b (e_op o_add (e_b (e_op o_mul (b_var (pv 5)) (b_var (pv 8)))) (e_b (e_op o_mul (b_var (pv 6)) (b_var (pv 10)))))) (b_var (pv 0))) a_nil))))))))
abbrev s_quad_by : Stmt := topS 48
abbrev N_quad_by : List Str := ["prime", "table", "e", "f", "a", "b", "c", "d", "parts", "number"]
theorem sc_quad_by : FnScope N_quad_by ["prime", "table"] (defScope s_quad_by) := ⟨rfl, rfl, rfl, by decide +kernel, rfl, by decide +kernel, by decide +kernel⟩
def S_quad_by : DS := (dSeq (dAsg (dTupF (dCons (dCallN 1 m_marks_by (dCons (dVar 0) dNil)) (dCons (dVar 1) dNil))) (gTp 2 (gsCons (gTp 2 (gsCons (gN 2) (gsCons (gN 3) gsNil))) (gsCons (gTp 4 (gsCons (gN 4) (gsCons (gN 5) (gsCons (gN 6) (gsCons (gN 7) gsNil))))) gsNil))))
    (dSeq (dSet 8 (dTupF (dCons (dOp vAdd (dPeek 4) (dPeek 7)) (dCons (dOp vSub (dPeek 6) (dPeek 5)) (dCons (dUn vNeg (dOp vAdd (dOp vMul (dPeek 2) (dOp vSub (dPeek 4) (dPeek 7))) (dOp vMul (dPeek 3) (dOp vAdd (dPeek 5) (dPeek 6))))) (dCons (dOp vSub (dOp vMul (dPeek 3) (dOp vSub (dPeek 4) (dPeek 7))) (dOp vMul (dPeek 2) (dOp vAdd (dPeek 5) (dPeek 6)))) dNil))))))
    (dRet (dCall cTuple (dCons (dOnlyL (dLc (dItems (dVar 8)) (gN 9) dYes (dOp vMul (dCst (.int 2)) (dCallN 2 m_half_by (dCons (dVar 0) (dCons (dVar 9) dNil)))) [9])) dNil)))))
def m_quad_by : List D → Cm D := fnD 10 S_quad_by
theorem ok_quad_by (A0 : DefAt K mg "quad_by" s_quad_by ["prime", "table"]) (h_marks_by : Has P w K mg base 1 "marks_by" ["prime"] m_marks_by) (h_half_by : Has P w K mg base 1 "half_by" ["prime", "number"] m_half_by) (n_tuple : mg "tuple" = none) : Has P w K mg base 2 "quad_by" ["prime", "table"] m_quad_by :=
  has_mk 1 A0 sc_quad_by S_quad_by fun f cdv A outer sh H hr =>
    (ss_cons (s_asg (e_tup (a_cons (e_callH h_marks_by (hr.mono (by decide)) (by rfl) (a_cons (e_var (pv 0)) a_nil)) (a_cons (e_var (pv 1)) a_nil))) (g_tup (n := 2) rfl (gs_cons (g_tup (n := 2) rfl (gs_cons (g_name (i := 2) sc_quad_by.nd rfl (by first | exact .inl rfl | exact .inr rfl)) (gs_cons (g_name (i := 3) sc_quad_by.nd rfl (by first | exact .inl rfl | exact .inr rfl)) gs_nil))) (gs_cons (g_tup (n := 4) rfl (gs_cons (g_name (i := 4) sc_quad_by.nd rfl (by first | exact .inl rfl | exact .inr rfl)) (gs_cons (g_name (i := 5) sc_quad_by.nd rfl (by first | exact .inl rfl | exact .inr rfl)) (gs_cons (g_name (i := 6) sc_quad_by.nd rfl (by first | exact .inl rfl | exact .inr rfl)) (gs_cons (g_name (i := 7) sc_quad_by.nd rfl (by first | exact .inl rfl | exact .inr rfl)) gs_nil))))) gs_nil))))
      (ss_cons (s_set (i := 8) sc_quad_by.nd rfl (by first | exact .inl rfl | exact .inr rfl) (e_tup (a_cons (e_op o_add (b_var (pv 4)) (b_var (pv 7))) (a_cons (e_op o_sub (b_var (pv 6)) (b_var (pv 5))) (a_cons (e_un u_neg (e_b (e_op o_add (e_b (e_op o_mul (b_var (pv 2)) (e_b (e_op o_sub (b_var (pv 4)) (b_var (pv 7)))))) (e_b (e_op o_mul (b_var (pv 3)) (e_b (e_op o_add (b_var (pv 5)) (b_var (pv 6))))))))) (a_cons (e_op o_sub (e_b (e_op o_mul (b_var (pv 3)) (e_b (e_op o_sub (b_var (pv 4)) (b_var (pv 7)))))) (e_b (e_op o_mul (b_var (pv 2)) (e_b (e_op o_add (b_var (pv 5)) (b_var (pv 6))))))) a_nil))))))
      (ss_one (s_ret (e_callTy k_tuple (by rfl) n_tuple (by decide +kernel) (ab_cons (e_b (e_f (f_lc (own := [("number", 9)]) rfl sc_quad_by.nd (i_seq (e_var (pv 8))) (blkOk_by (N := N_quad_by) (sc := (defScope s_quad_by)) (by decide +kernel)) (fun _ _ _ _ _ => (g_name (i := 9) sc_quad_by.nd rfl (by first | exact .inl rfl | exact .inr rfl))) (fun _ _ _ _ _ => ts_nil) (fun _ _ _ _ _ => (e_op o_mul (e_b e_int) (e_b (e_callH h_half_by (hr.mono (by decide)) (by rfl) (a_cons (e_var (pv 0)) (a_cons (e_var (pv 9)) a_nil)))))) (by decide)))) ab_nil))))))
abbrev s_table_of : Stmt := topS 49
abbrev N_table_of : List Str := ["prime", "quad"]
theorem sc_table_of : FnScope N_table_of ["prime", "quad"] (defScope s_table_of) := ⟨rfl, rfl, rfl, by decide +kernel, rfl, by decide +kernel, by decide +kernel⟩
def S_table_of : DS := (dSeq (dDrop (dCallN 1 m_need_odd (dCons (dVar 0) dNil)))
    (dSeq (dDrop (dCallN 1 m_need_quad (dCons (dVar 1) dNil)))
    (dRet (dCallN 2 m_table_by (dCons (dVar 0) (dCons (dVar 1) dNil))))))
def m_table_of : List D → Cm D := fnD 2 S_table_of
theorem ok_table_of (A0 : DefAt K mg "table_of" s_table_of ["prime", "quad"]) (h_need_odd : Has P w K mg base 4 "need_odd" ["prime"] m_need_odd) (h_need_quad : Has P w K mg base 4 "need_quad" ["quad"] m_need_quad) (h_table_by : Has P w K mg base 2 "table_by" ["prime", "quad"] m_table_by) : Has P w K mg base 5 "table_of" ["prime", "quad"] m_table_of :=
  has_mk 4 A0 sc_table_of S_table_of fun f cdv A outer sh H hr =>
    (ss_cons (s_drop (e_callH h_need_odd (hr.mono (by decide)) (by rfl) (a_cons (e_var (pv 0)) a_nil)))
      (ss_cons (s_drop (e_callH h_need_quad (hr.mono (by decide)) (by rfl) (a_cons (e_var (pv 1)) a_nil)))
      (ss_one (s_ret (e_callH h_table_by (hr.mono (by decide)) (by rfl) (a_cons (e_var (pv 0)) (a_cons (e_var (pv 1)) a_nil)))))))
abbrev s_tables_then : Stmt := topS 50
abbrev N_tables_then : List Str := ["prime", "one", "other"]
theorem sc_tables_then : FnScope N_tables_then ["prime", "one", "other"] (defScope s_tables_then) := ⟨rfl, rfl, rfl, by decide +kernel, rfl, by decide +kernel, by decide +kernel⟩
def S_tables_then : DS := (dSeq (dDrop (dCallN 1 m_need_odd (dCons (dVar 0) dNil)))
    (dSeq (dIfS (dNotT (dTru (dCallN 2 m_is_table_of (dCons (dVar 0) (dCons (dVar 1) dNil))))) dNever dSkip)
    (dSeq (dIfS (dNotT (dTru (dCallN 2 m_is_table_of (dCons (dVar 0) (dCons (dVar 2) dNil))))) dNever dSkip)
    (dRet (dCallN 3 m_then_by (dCons (dVar 0) (dCons (dVar 1) (dCons (dVar 2) dNil))))))))
def m_tables_then : List D → Cm D := fnD 3 S_tables_then
theorem ok_tables_then (A0 : DefAt K mg "tables_then" s_tables_then ["prime", "one", "other"]) (h_need_odd : Has P w K mg base 4 "need_odd" ["prime"] m_need_odd) (h_is_table_of : Has P w K mg base 2 "is_table_of" ["prime", "thing"] m_is_table_of) (h_then_by : Has P w K mg base 1 "then_by" ["prime", "one", "other"] m_then_by) : Has P w K mg base 5 "tables_then" ["prime", "one", "other"] m_tables_then :=
  has_mk 4 A0 sc_tables_then S_tables_then fun f cdv A outer sh H hr =>
    (ss_cons (s_drop (e_callH h_need_odd (hr.mono (by decide)) (by rfl) (a_cons (e_var (pv 0)) a_nil)))
      (ss_cons (s_if (t_not (t_val (e_callH h_is_table_of (hr.mono (by decide)) (by rfl) (a_cons (e_var (pv 0)) (a_cons (e_var (pv 1)) a_nil))))) (ss_one s_never) ss_nil)
      (ss_cons (s_if (t_not (t_val (e_callH h_is_table_of (hr.mono (by decide)) (by rfl) (a_cons (e_var (pv 0)) (a_cons (e_var (pv 2)) a_nil))))) (ss_one s_never) ss_nil)
      (ss_one (s_ret (e_callH h_then_by (hr.mono (by decide)) (by rfl) (a_cons (e_var (pv 0)) (a_cons (e_var (pv 1)) (a_cons (e_var (pv 2)) a_nil)))))))))
abbrev s_quad_of_table : Stmt := topS 51
abbrev N_quad_of_table : List Str := ["prime", "table"]
theorem sc_quad_of_table : FnScope N_quad_of_table ["prime", "table"] (defScope s_quad_of_table) := ⟨rfl, rfl, rfl, by decide +kernel, rfl, by decide +kernel, by decide +kernel⟩
def S_quad_of_table : DS := (dSeq (dDrop (dCallN 1 m_need_odd (dCons (dVar 0) dNil)))
    (dSeq (dIfS (dNotT (dTru (dCallN 2 m_is_table_of (dCons (dVar 0) (dCons (dVar 1) dNil))))) dNever dSkip)
    (dRet (dCallN 2 m_quad_by (dCons (dVar 0) (dCons (dVar 1) dNil))))))
def m_quad_of_table : List D → Cm D := fnD 2 S_quad_of_table
theorem ok_quad_of_table (A0 : DefAt K mg "quad_of_table" s_quad_of_table ["prime", "table"]) (h_need_odd : Has P w K mg base 4 "need_odd" ["prime"] m_need_odd) (h_is_table_of : Has P w K mg base 2 "is_table_of" ["prime", "thing"] m_is_table_of) (h_quad_by : Has P w K mg base 2 "quad_by" ["prime", "table"] m_quad_by) : Has P w K mg base 5 "quad_of_table" ["prime", "table"] m_quad_of_table :=
  has_mk 4 A0 sc_quad_of_table S_quad_of_table fun f cdv A outer sh H hr =>
    (ss_cons (s_drop (e_callH h_need_odd (hr.mono (by decide)) (by rfl) (a_cons (e_var (pv 0)) a_nil)))
      (ss_cons (s_if (t_not (t_val (e_callH h_is_table_of (hr.mono (by decide)) (by rfl) (a_cons (e_var (pv 0)) (a_cons (e_var (pv 1)) a_nil))))) (ss_one s_never) ss_nil)
      (ss_one (s_ret (e_callH h_quad_by (hr.mono (by decide)) (by rfl) (a_cons (e_var (pv 0)) (a_cons (e_var (pv 1)) a_nil)))))))
abbrev s_Lpick : Stmt := topS 56
abbrev N_Lpick : List Str := ["draw", "some"]
theorem sc_Lpick : FnScope N_Lpick ["draw", "some"] (defScope s_Lpick) := ⟨rfl, rfl, rfl, by decide +kernel, rfl, by decide +kernel, by decide +kernel⟩
def S_Lpick : DS := (dRet (dOp vIx (dPeek 1) (dCallN 2 m_Ltake (dCons (dVar 0) (dCons (dCall cLen (dCons (dPeek 1) dNil)) dNil)))))
def m_Lpick : List D → Cm D := fnD 2 S_Lpick
theorem ok_Lpick (A0 : DefAt K mg "_law_pick" s_Lpick ["draw", "some"]) (h_Ltake : Has P w K mg base 2 "_law_take" ["draw", "amount"] m_Ltake) (n_len : mg "len" = none) : Has P w K mg base 3 "_law_pick" ["draw", "some"] m_Lpick :=
  has_mk 2 A0 sc_Lpick S_Lpick fun f cdv A outer sh H hr =>
    (ss_one (s_ret (e_ix x_ix (b_var (pv 1)) (e_b (e_callH h_Ltake (hr.mono (by decide)) (by rfl) (a_cons (e_var (pv 0)) (a_cons (e_callB k_len (by rfl) n_len (by decide +kernel) (ab_cons (b_var (pv 1)) ab_nil)) a_nil)))) (fun _ _ => rfl))))
abbrev s_Lsize : Stmt := topS 57
abbrev N_Lsize : List Str := ["quad", "number"]
theorem sc_Lsize : FnScope N_Lsize ["quad"] (defScope s_Lsize) := ⟨rfl, rfl, rfl, by decide +kernel, rfl, by decide +kernel, by decide +kernel⟩
def S_Lsize : DS := (dRet (dOp vDiv (dCall cSum (dCons (dOnlyL (dLc (dItems (dVar 0)) (gN 1) dYes (dOp vMul (dPeek 1) (dPeek 1)) [1])) dNil)) (dCst (.int 4))))
def m_Lsize : List D → Cm D := fnD 2 S_Lsize
theorem ok_Lsize (A0 : DefAt K mg "_law_size" s_Lsize ["quad"]) (n_sum : mg "sum" = none) : Has P w K mg base 1 "_law_size" ["quad"] m_Lsize :=
  has_mk 0 A0 sc_Lsize S_Lsize fun f cdv A outer sh H hr =>
    (ss_one (s_ret (e_op o_div (e_b (e_callB (k_sum rfl) (by rfl) n_sum (by decide +kernel) (ab_cons (e_b (e_f (f_lc (own := [("number", 1)]) rfl sc_Lsize.nd (i_seq (e_var (pv 0))) (blkOk_by (N := N_Lsize) (sc := (defScope s_Lsize)) (by decide +kernel)) (fun _ _ _ _ _ => (g_name (i := 1) sc_Lsize.nd rfl (by first | exact .inl rfl | exact .inr rfl))) (fun _ _ _ _ _ => ts_nil) (fun _ _ _ _ _ => (e_op o_mul (b_var (pv 1)) (b_var (pv 1)))) (by decide)))) ab_nil))) (e_b e_int))))
abbrev s_Lquad : Stmt := topS 58
abbrev N_Lquad : List Str := ["draw", "kind", "lap"]
theorem sc_Lquad : FnScope N_Lquad ["draw"] (defScope s_Lquad) := ⟨rfl, rfl, rfl, by decide +kernel, rfl, by decide +kernel, by decide +kernel⟩
def S_Lquad : DS := (dSeq (dSet 1 (dCallN 2 m_Ltake (dCons (dVar 0) (dCons (dCst (.int 2)) dNil))))
    (dRet (dCall cTuple (dCons (dOnlyL (dLc (dRng1 (dCons (dCst (.int 4)) dNil)) (gN 2) dYes (dOp vAdd (dOp vMul (dCst (.int 2)) (dOp vSub (dCallN 2 m_Ltake (dCons (dVar 0) (dCons (dCst (.int 9)) dNil))) (dCst (.int 4)))) (dPeek 1)) [2])) dNil))))
def m_Lquad : List D → Cm D := fnD 3 S_Lquad
theorem ok_Lquad (A0 : DefAt K mg "_law_quad" s_Lquad ["draw"]) (h_Ltake : Has P w K mg base 2 "_law_take" ["draw", "amount"] m_Ltake) (n_range : mg "range" = none) (n_tuple : mg "tuple" = none) : Has P w K mg base 3 "_law_quad" ["draw"] m_Lquad :=
  has_mk 2 A0 sc_Lquad S_Lquad fun f cdv A outer sh H hr =>
    (ss_cons (s_set (i := 1) sc_Lquad.nd rfl (by first | exact .inl rfl | exact .inr rfl) (e_callH h_Ltake (hr.mono (by decide)) (by rfl) (a_cons (e_var (pv 0)) (a_cons e_int a_nil))))
      (ss_one (s_ret (e_callTy k_tuple (by rfl) n_tuple (by decide +kernel) (ab_cons (e_b (e_f (f_lc (own := [("lap", 2)]) rfl sc_Lquad.nd (i_rng1 (by rfl) n_range (a_cons e_int a_nil)) (blkOk_by (N := N_Lquad) (sc := (defScope s_Lquad)) (by decide +kernel)) (fun _ _ _ _ _ => (g_name (i := 2) sc_Lquad.nd rfl (by first | exact .inl rfl | exact .inr rfl))) (fun _ _ _ _ _ => ts_nil) (fun _ _ _ _ _ => (e_op o_add (e_b (e_op o_mul (e_b e_int) (e_b (e_op o_sub (e_b (e_callH h_Ltake (hr.mono (by decide)) (by rfl) (a_cons (e_var (pv 0)) (a_cons e_int a_nil)))) (e_b e_int))))) (b_var (pv 1)))) (by decide)))) ab_nil)))))
abbrev s_Lsome_quad : Stmt := topS 59
abbrev N_Lsome_quad : List Str := ["draw", "found"]
theorem sc_Lsome_quad : FnScope N_Lsome_quad ["draw"] (defScope s_Lsome_quad) := ⟨rfl, rfl, rfl, by decide +kernel, rfl, by decide +kernel, by decide +kernel⟩
def S_Lsome_quad : DS := (dSeq (dSet 1 (dCallN 1 m_Lquad (dCons (dVar 0) dNil)))
    (dRet (dIf (dTru (dOp vNe (dPeek 1) (dTupF (dCons (dCst (.int 0)) (dCons (dCst (.int 0)) (dCons (dCst (.int 0)) (dCons (dCst (.int 0)) dNil))))))) (dVar 1) (dTupF (dCons (dCst (.int 2)) (dCons (dCst (.int 2)) (dCons (dCst (.int 0)) (dCons (dCst (.int 0)) dNil))))))))
def m_Lsome_quad : List D → Cm D := fnD 2 S_Lsome_quad
theorem ok_Lsome_quad (A0 : DefAt K mg "_law_some_quad" s_Lsome_quad ["draw"]) (h_Lquad : Has P w K mg base 3 "_law_quad" ["draw"] m_Lquad) : Has P w K mg base 4 "_law_some_quad" ["draw"] m_Lsome_quad :=
  has_mk 3 A0 sc_Lsome_quad S_Lsome_quad fun f cdv A outer sh H hr =>
    (ss_cons (s_set (i := 1) sc_Lsome_quad.nd rfl (by first | exact .inl rfl | exact .inr rfl) (e_callH h_Lquad (hr.mono (by decide)) (by rfl) (a_cons (e_var (pv 0)) a_nil)))
      (ss_one (s_ret (e_ifExp (t_cmp (o_ne hr.units) (b_var (pv 1)) (e_b (e_tup (a_cons e_int (a_cons e_int (a_cons e_int (a_cons e_int a_nil)))))) (nomark _)) (e_var (pv 1)) (e_tup (a_cons e_int (a_cons e_int (a_cons e_int (a_cons e_int a_nil)))))))))
abbrev s_Lnet_quad : Stmt := topS 60
abbrev N_Lnet_quad : List Str := ["draw", "q", "lap", "found"]
theorem sc_Lnet_quad : FnScope N_Lnet_quad ["draw", "q"] (defScope s_Lnet_quad) := ⟨rfl, rfl, rfl, by decide +kernel, rfl, by decide +kernel, by decide +kernel⟩
def S_Lnet_quad : DS := (dSeq (dFor (dRng1 (dCons (dCst (.int 20)) dNil)) (gN 2) (dSeq (dSet 3 (dCallN 1 m_Lsome_quad (dCons (dVar 0) dNil)))
    (dIfS (dTru (dOp vNe (dOp vMod (dCallN 1 m_Lsize (dCons (dVar 3) dNil)) (dPeek 1)) (dCst (.int 0)))) (dRet (dVar 3)) dSkip)))
    (dRet (dTupF (dCons (dCst (.int 2)) (dCons (dCst (.int 0)) (dCons (dCst (.int 0)) (dCons (dCst (.int 0)) dNil)))))))
def m_Lnet_quad : List D → Cm D := fnD 4 S_Lnet_quad
theorem ok_Lnet_quad (A0 : DefAt K mg "_law_net_quad" s_Lnet_quad ["draw", "q"]) (h_Lsome_quad : Has P w K mg base 4 "_law_some_quad" ["draw"] m_Lsome_quad) (h_Lsize : Has P w K mg base 1 "_law_size" ["quad"] m_Lsize) (n_range : mg "range" = none) : Has P w K mg base 5 "_law_net_quad" ["draw", "q"] m_Lnet_quad :=
  has_mk 4 A0 sc_Lnet_quad S_Lnet_quad fun f cdv A outer sh H hr =>
    (ss_cons (s_for PassesOwn.never rfl (i_rng1 (by rfl) n_range (a_cons e_int a_nil)) (g_name (i := 2) sc_Lnet_quad.nd rfl (by first | exact .inl rfl | exact .inr rfl)) (ss_cons (s_set (i := 3) sc_Lnet_quad.nd rfl (by first | exact .inl rfl | exact .inr rfl) (e_callH h_Lsome_quad (hr.mono (by decide)) (by rfl) (a_cons (e_var (pv 0)) a_nil)))
      (ss_one (s_if (t_cmp (o_ne hr.units) (e_b (e_op o_mod (e_b (e_callH h_Lsize (hr.mono (by decide)) (by rfl) (a_cons (e_var (pv 3)) a_nil))) (b_var (pv 1)))) (e_b e_int) (nomark _)) (ss_one (s_ret (e_var (pv 3)))) ss_nil))))
      (ss_one (s_ret (e_tup (a_cons e_int (a_cons e_int (a_cons e_int (a_cons e_int a_nil))))))))
abbrev s_Lleft : Stmt := topS 61
abbrev N_Lleft : List Str := ["q", "told", "back", "number", "one", "row"]
theorem sc_Lleft : FnScope N_Lleft ["q", "told"] (defScope s_Lleft) := ⟨rfl, rfl, rfl, by decide +kernel, rfl, by decide +kernel, by decide +kernel⟩
def S_Lleft : DS := (dSeq (dSet 2 (dOp vIx (dOnlyL (dLc (dRng2 (dCons (dCst (.int 1)) (dCons (dVar 0) dNil))) (gN 3) (dTru (dOp vEq (dOp vMod (dOp vMul (dPeek 3) (dOp vIx (dPeek 1) (dCst (.int 0)))) (dPeek 0)) (dCst (.int 1)))) (dVar 3) [3])) (dCst (.int 0))))
    (dRet (dCall cTuple (dCons (dOnlyL (dLc (dItems (dOp vIx (dPeek 1) (dCst (.int 1)))) (gN 5) dYes (dCall cTuple (dCons (dOnlyL (dLc (dItems (dVar 5)) (gN 4) dYes (dOp vMod (dCall cInt (dCons (dOp vMul (dPeek 2) (dPeek 4)) dNil)) (dPeek 0)) [4])) dNil)) [5])) dNil))))
def m_Lleft : List D → Cm D := fnD 6 S_Lleft
theorem ok_Lleft (A0 : DefAt K mg "_law_left" s_Lleft ["q", "told"]) (n_int : mg "int" = none) (n_range : mg "range" = none) (n_tuple : mg "tuple" = none) : Has P w K mg base 1 "_law_left" ["q", "told"] m_Lleft :=
  has_mk 0 A0 sc_Lleft S_Lleft fun f cdv A outer sh H hr =>
    (ss_cons (s_set (i := 2) sc_Lleft.nd rfl (by first | exact .inl rfl | exact .inr rfl) (e_ix x_ix (e_b (e_f (f_lc (own := [("number", 3)]) rfl sc_Lleft.nd (i_rng2 (by rfl) n_range (a_cons e_int (a_cons (e_var (pv 0)) a_nil))) (blkOk_by (N := N_Lleft) (sc := (defScope s_Lleft)) (by decide +kernel)) (fun _ _ _ _ _ => (g_name (i := 3) sc_Lleft.nd rfl (by first | exact .inl rfl | exact .inr rfl))) (fun _ _ _ _ _ => (ts_one (t_cmp (o_eq hr.units) (e_b (e_op o_mod (e_b (e_op o_mul (b_var (pv 3)) (e_b (e_ix x_ix (b_var (pv 1)) (e_b e_int) (fun _ _ => rfl))))) (b_var (pv 0)))) (e_b e_int) (nomark _)))) (fun _ _ _ _ _ => (e_var (pv 3))) (by decide)))) (e_b e_int) (fun _ _ => rfl)))
      (ss_one (s_ret (e_callTy k_tuple (by rfl) n_tuple (by decide +kernel) (ab_cons (e_b (e_f (f_lc (own := [("row", 5)]) rfl sc_Lleft.nd (i_seq (e_ix x_ix (b_var (pv 1)) (e_b e_int) (fun _ _ => rfl))) (blkOk_by (N := N_Lleft) (sc := (defScope s_Lleft)) (by decide +kernel)) (fun _ _ _ _ _ => (g_name (i := 5) sc_Lleft.nd rfl (by first | exact .inl rfl | exact .inr rfl))) (fun _ _ _ _ _ => ts_nil) (fun _ _ _ _ _ => (e_callTy k_tuple (by rfl) n_tuple (by decide +kernel) (ab_cons (e_b (e_f (f_lc (own := [("one", 4)]) rfl sc_Lleft.nd (i_seq (e_var (pv 5))) (blkOk_by (N := N_Lleft) (sc := (relS _ (defScope s_Lleft))) (by decide +kernel)) (fun _ _ _ _ _ => (g_name (i := 4) sc_Lleft.nd rfl (by first | exact .inl rfl | exact .inr rfl))) (fun _ _ _ _ _ => ts_nil) (fun _ _ _ _ _ => (e_op o_mod (e_b (e_callTy k_int (by rfl) n_int (by decide +kernel) (ab_cons (e_b (e_op o_mul (b_var (pv 2)) (b_var (pv 4)))) ab_nil))) (b_var (pv 0)))) (by decide)))) ab_nil))) (by decide)))) ab_nil)))))
abbrev s_law : Stmt := topS 62
abbrev N_law : List Str := ["script", "draw", "turn", "q", "quad", "more", "late", "low", "other", "both", "rows", "mine", "yours", "due", "at", "to", "row", "many"]
theorem sc_law : FnScope N_law ["script"] (defScope s_law) := ⟨rfl, rfl, rfl, by decide +kernel, rfl, by decide +kernel, by decide +kernel⟩
def B1_law : DS := (dSeq (dSet 3 (dCallN 2 m_Lpick (dCons (dVar 1) (dCons (dOnlyL (dLstF (dCons (dCst (.int 3)) (dCons (dCst (.int 5)) (dCons (dCst (.int 7)) (dCons (dCst (.int 11)) (dCons (dCst (.int 13)) dNil))))))) dNil))))
    (dSeq (dPar 4 5 (dCallN 2 m_Lnet_quad (dCons (dVar 1) (dCons (dVar 3) dNil))) (dCallN 1 m_Lquad (dCons (dVar 1) dNil)))
    (dSeq (dSet 6 (dCallN 3 m_plus (dCons (dVar 4) (dCons (dVar 5) (dCons (dOp vMul (dPeek 3) (dOp vAdd (dCst (.int 1)) (dCallN 2 m_Ltake (dCons (dVar 1) (dCons (dCst (.int 4)) dNil))))) dNil)))))
    (dSeq (dIfS (dTru (dOp vEq (dPeek 6) (dTupF (dCons (dCst (.int 0)) (dCons (dCst (.int 0)) (dCons (dCst (.int 0)) (dCons (dCst (.int 0)) dNil))))))) dCont dSkip)
    (dSeq (dIfS (dOrT (dTru (dOp vNe (dCallN 2 m_table_of (dCons (dVar 3) (dCons (dVar 6) dNil))) (dCallN 2 m_table_of (dCons (dVar 3) (dCons (dVar 4) dNil))))) (dTru (dOp vNe (dCallN 2 m_Lleft (dCons (dVar 3) (dCons (dCallN 1 m_turn_of (dCons (dVar 6) dNil)) dNil))) (dCallN 2 m_Lleft (dCons (dVar 3) (dCons (dCallN 1 m_turn_of (dCons (dVar 4) dNil)) dNil)))))) (dRet (dCst (.bool false))) dSkip)
    (dSeq (dSet 7 (dCallN 2 m_quad_of_table (dCons (dVar 3) (dCons (dCallN 2 m_table_of (dCons (dVar 3) (dCons (dVar 4) dNil))) dNil))))
    (dSeq (dIfS (dTru (dOp vNe (dCallN 2 m_Lleft (dCons (dVar 3) (dCons (dCallN 1 m_turn_of (dCons (dVar 7) dNil)) dNil))) (dCallN 2 m_Lleft (dCons (dVar 3) (dCons (dCallN 1 m_turn_of (dCons (dVar 4) dNil)) dNil))))) (dRet (dCst (.bool false))) dSkip)
    (dSeq (dSet 8 (dCallN 2 m_Lnet_quad (dCons (dVar 1) (dCons (dVar 3) dNil))))
    (dSeq (dSet 9 (dCallN 2 m_product (dCons (dVar 4) (dCons (dVar 8) dNil))))
    (dSeq (dAsg (dTupF (dCons (dCallN 2 m_Lleft (dCons (dVar 3) (dCons (dCallN 1 m_turn_of (dCons (dVar 9) dNil)) dNil))) (dCons (dCallN 2 m_Lleft (dCons (dVar 3) (dCons (dCallN 1 m_turn_of (dCons (dVar 4) dNil)) dNil))) (dCons (dCallN 2 m_Lleft (dCons (dVar 3) (dCons (dCallN 1 m_turn_of (dCons (dVar 8) dNil)) dNil))) dNil)))) (gTp 3 (gsCons (gN 10) (gsCons (gN 11) (gsCons (gN 12) gsNil)))))
    (dSeq (dSet 13 (dCall cTuple (dCons (dOnlyL (dLc (dItems (dVar 11)) (gN 16) dYes (dCall cTuple (dCons (dOnlyL (dLc (dRng1 (dCons (dCst (.int 3)) dNil)) (gN 15) dYes (dOp vMod (dCall cInt (dCons (dCall cSum (dCons (dOnlyL (dLc (dRng1 (dCons (dCst (.int 3)) dNil)) (gN 14) dYes (dOp vMul (dOp vIx (dPeek 16) (dPeek 14)) (dOp vIx (dOp vIx (dPeek 12) (dPeek 14)) (dPeek 15))) [14])) dNil)) dNil)) (dPeek 3)) [15])) dNil)) [16])) dNil)))
    (dSeq (dIfS (dOrT (dTru (dOp vNe (dPeek 10) (dPeek 13))) (dOrT (dTru (dOp vNe (dCallN 2 m_table_of (dCons (dVar 3) (dCons (dVar 9) dNil))) (dCallN 3 m_tables_then (dCons (dVar 3) (dCons (dCallN 2 m_table_of (dCons (dVar 3) (dCons (dVar 4) dNil))) (dCons (dCallN 2 m_table_of (dCons (dVar 3) (dCons (dVar 8) dNil))) dNil)))))) (dTru (dOp vNe (dCallN 1 m_turn_of (dCons (dVar 9) dNil)) (dCallN 2 m_turns_then (dCons (dCallN 1 m_turn_of (dCons (dVar 8) dNil)) (dCons (dCallN 1 m_turn_of (dCons (dVar 4) dNil)) dNil))))))) (dRet (dCst (.bool false))) dSkip)
    (dSeq (dSet 17 (dOp vAdd (dCst (.int 1)) (dCallN 2 m_Ltake (dCons (dVar 1) (dCons (dOp vSub (dPeek 3) (dCst (.int 1))) dNil)))))
    (dIfS (dOrT (dTru (dOp vNe (dCallN 2 m_Lleft (dCons (dVar 3) (dCons (dCallN 1 m_turn_of (dCons (dTupF (dCons (dOp vMul (dCst (.int 2)) (dPeek 17)) (dCons (dCst (.int 0)) (dCons (dCst (.int 0)) (dCons (dCst (.int 0)) dNil))))) dNil)) dNil))) (dTupF (dCons (dTupF (dCons (dCst (.int 1)) (dCons (dCst (.int 0)) (dCons (dCst (.int 0)) dNil)))) (dCons (dTupF (dCons (dCst (.int 0)) (dCons (dCst (.int 1)) (dCons (dCst (.int 0)) dNil)))) (dCons (dTupF (dCons (dCst (.int 0)) (dCons (dCst (.int 0)) (dCons (dCst (.int 1)) dNil)))) dNil)))))) (dTru (dOp vNe (dCallN 2 m_table_of (dCons (dVar 3) (dCons (dTupF (dCons (dOp vMul (dCst (.int 2)) (dPeek 17)) (dCons (dCst (.int 0)) (dCons (dCst (.int 0)) (dCons (dCst (.int 0)) dNil))))) dNil))) (dTupF (dCons (dVar 17) (dCons (dCst (.int 0)) (dCons (dCst (.int 0)) (dCons (dVar 17) dNil)))))))) (dRet (dCst (.bool false))) dSkip))))))))))))))
def S_law : DS := (dSeq (dFor (dRng1 (dCons (dOp vAdd (dCst (.int 3)) (dCall cMin2 (dCons (dCall cLen (dCons (dPeek 0) dNil)) (dCons (dCst (.int 6)) dNil)))) dNil)) (gN 2) B1_law)
    (dRet (dCst (.bool true))))
def env_law (ns : List Int) : Fs.Env := [.val (.list (ns.map .int)), .val drwT] ++ List.replicate 16 .no
theorem ok_law {fa : Addr} {fd : FuncData} (FF : Fun K "law" "law" s_law fa fd)
   (h_Lbegun : ∃ (fa : Addr) (fd : FuncData), FnOk P w K mg base CX0 1 fa fd ["script"] (spBegun K) ∧ mg "_law_begun" = some (.ref fa) ∧ PySem.W.keepIn K (.ref fa) = true ∧ L2.Binds K fd ["script"] [])
   (h_Lpick : Has P w K mg base 3 "_law_pick" ["draw", "some"] m_Lpick)
   (h_Lnet_quad : Has P w K mg base 5 "_law_net_quad" ["draw", "q"] m_Lnet_quad)
   (h_Lquad : Has P w K mg base 3 "_law_quad" ["draw"] m_Lquad)
   (h_plus : Has P w K mg base 5 "plus" ["one", "other", "many"] m_plus)
   (h_Ltake : Has P w K mg base 2 "_law_take" ["draw", "amount"] m_Ltake)
   (h_table_of : Has P w K mg base 5 "table_of" ["prime", "quad"] m_table_of)
   (h_Lleft : Has P w K mg base 1 "_law_left" ["q", "told"] m_Lleft)
   (h_turn_of : Has P w K mg base 5 "turn_of" ["quad"] m_turn_of)
   (h_quad_of_table : Has P w K mg base 5 "quad_of_table" ["prime", "table"] m_quad_of_table)
   (h_product : Has P w K mg base 5 "product" ["one", "other"] m_product)
   (h_tables_then : Has P w K mg base 5 "tables_then" ["prime", "one", "other"] m_tables_then)
   (h_turns_then : Has P w K mg base 4 "turns_then" ["one", "other"] m_turns_then)
   (n_int : mg "int" = none)
   (n_len : mg "len" = none)
   (n_min : mg "min" = none)
   (n_range : mg "range" = none)
   (n_sum : mg "sum" = none)
   (n_tuple : mg "tuple" = none) (math : ∀ ns : List Int, ns.length ≤ 63 → (S_law (env_law ns)).All (fun o => o = .rt (.bool true))) : FnOk P w K mg base CX0 6 fa fd ["script"] (spLaw K) := by
  obtain ⟨fb, fdb, FB, gb, kb, bbb⟩ := h_Lbegun
  refine FF.ok sc_law (fun vs H Q E h => ?_) (fun cdv A outer sh H vs Q E hr h => ?_)
  · obtain ⟨a, ns, rfl, _⟩ := h
    rfl
  · obtain ⟨a, ns, rfl, hS, hlen, q⟩ := h
    refine ⟨_, pss_cons (ps_set (i := 1) sc_law.nd rfl (.inl rfl) (pe_call (FB.mono (by decide)) hr (by rfl) gb kb bbb .nil pass0 (pa_cons (pv 0) pa_nil)))
      (ss_cons (s_for PassesOwn.never rfl (i_rng1 (by rfl) n_range (a_cons (e_op o_add (e_b e_int) (e_b (e_callB (k_min2 rfl) (by rfl) n_min (by decide +kernel) (ab_cons (e_b (e_callB k_len (by rfl) n_len (by decide +kernel) (ab_cons (b_var (pv 0)) ab_nil))) (ab_cons (e_b e_int) ab_nil))))) a_nil)) (g_name (i := 2) sc_law.nd rfl (by first | exact .inl rfl | exact .inr rfl)) (ss_cons (s_set (i := 3) sc_law.nd rfl (by first | exact .inl rfl | exact .inr rfl) (e_callH h_Lpick (hr.mono (by decide)) (by rfl) (a_cons (e_var (pv 1)) (a_cons (e_f (f_lst (a_cons e_int (a_cons e_int (a_cons e_int (a_cons e_int (a_cons e_int a_nil))))))) a_nil))))
      (ss_cons (s_par (i := 4) (j := 5) rfl sc_law.nd rfl rfl (by decide) rfl rfl (e_callH h_Lnet_quad (hr.mono (by decide)) (by rfl) (a_cons (e_var (pv 1)) (a_cons (e_var (pv 3)) a_nil))) (e_callH h_Lquad (hr.mono (by decide)) (by rfl) (a_cons (e_var (pv 1)) a_nil)) (by rfl))
      (ss_cons (s_set (i := 6) sc_law.nd rfl (by first | exact .inl rfl | exact .inr rfl) (e_callH h_plus (hr.mono (by decide)) (by rfl) (a_cons (e_var (pv 4)) (a_cons (e_var (pv 5)) (a_cons (e_op o_mul (b_var (pv 3)) (e_b (e_op o_add (e_b e_int) (e_b (e_callH h_Ltake (hr.mono (by decide)) (by rfl) (a_cons (e_var (pv 1)) (a_cons e_int a_nil))))))) a_nil)))))
      (ss_cons (s_if (t_cmp (o_eq hr.units) (b_var (pv 6)) (e_b (e_tup (a_cons e_int (a_cons e_int (a_cons e_int (a_cons e_int a_nil)))))) (nomark _)) (ss_one s_cont) ss_nil)
      (ss_cons (s_if (PW.pt (w_or (t_cmp (o_ne hr.units) (e_b (e_callH h_table_of (hr.mono (by decide)) (by rfl) (a_cons (e_var (pv 3)) (a_cons (e_var (pv 6)) a_nil)))) (e_b (e_callH h_table_of (hr.mono (by decide)) (by rfl) (a_cons (e_var (pv 3)) (a_cons (e_var (pv 4)) a_nil)))) (nomark _)) (w_or1 (t_cmp (o_ne hr.units) (e_b (e_callH h_Lleft (hr.mono (by decide)) (by rfl) (a_cons (e_var (pv 3)) (a_cons (e_callH h_turn_of (hr.mono (by decide)) (by rfl) (a_cons (e_var (pv 6)) a_nil)) a_nil)))) (e_b (e_callH h_Lleft (hr.mono (by decide)) (by rfl) (a_cons (e_var (pv 3)) (a_cons (e_callH h_turn_of (hr.mono (by decide)) (by rfl) (a_cons (e_var (pv 4)) a_nil)) a_nil)))) (nomark _))))) (ss_one (s_ret e_bl)) ss_nil)
      (ss_cons (s_set (i := 7) sc_law.nd rfl (by first | exact .inl rfl | exact .inr rfl) (e_callH h_quad_of_table (hr.mono (by decide)) (by rfl) (a_cons (e_var (pv 3)) (a_cons (e_callH h_table_of (hr.mono (by decide)) (by rfl) (a_cons (e_var (pv 3)) (a_cons (e_var (pv 4)) a_nil))) a_nil))))
      (ss_cons (s_if (t_cmp (o_ne hr.units) (e_b (e_callH h_Lleft (hr.mono (by decide)) (by rfl) (a_cons (e_var (pv 3)) (a_cons (e_callH h_turn_of (hr.mono (by decide)) (by rfl) (a_cons (e_var (pv 7)) a_nil)) a_nil)))) (e_b (e_callH h_Lleft (hr.mono (by decide)) (by rfl) (a_cons (e_var (pv 3)) (a_cons (e_callH h_turn_of (hr.mono (by decide)) (by rfl) (a_cons (e_var (pv 4)) a_nil)) a_nil)))) (nomark _)) (ss_one (s_ret e_bl)) ss_nil)
      (ss_cons (s_set (i := 8) sc_law.nd rfl (by first | exact .inl rfl | exact .inr rfl) (e_callH h_Lnet_quad (hr.mono (by decide)) (by rfl) (a_cons (e_var (pv 1)) (a_cons (e_var (pv 3)) a_nil))))
      (ss_cons (s_set (i := 9) sc_law.nd rfl (by first | exact .inl rfl | exact .inr rfl) (e_callH h_product (hr.mono (by decide)) (by rfl) (a_cons (e_var (pv 4)) (a_cons (e_var (pv 8)) a_nil))))
      (ss_cons (s_asg (e_tup (a_cons (e_callH h_Lleft (hr.mono (by decide)) (by rfl) (a_cons (e_var (pv 3)) (a_cons (e_callH h_turn_of (hr.mono (by decide)) (by rfl) (a_cons (e_var (pv 9)) a_nil)) a_nil))) (a_cons (e_callH h_Lleft (hr.mono (by decide)) (by rfl) (a_cons (e_var (pv 3)) (a_cons (e_callH h_turn_of (hr.mono (by decide)) (by rfl) (a_cons (e_var (pv 4)) a_nil)) a_nil))) (a_cons (e_callH h_Lleft (hr.mono (by decide)) (by rfl) (a_cons (e_var (pv 3)) (a_cons (e_callH h_turn_of (hr.mono (by decide)) (by rfl) (a_cons (e_var (pv 8)) a_nil)) a_nil))) a_nil)))) (g_tup (n := 3) rfl (gs_cons (g_name (i := 10) sc_law.nd rfl (by first | exact .inl rfl | exact .inr rfl)) (gs_cons (g_name (i := 11) sc_law.nd rfl (by first | exact .inl rfl | exact .inr rfl)) (gs_cons (g_name (i := 12) sc_law.nd rfl (by first | exact .inl rfl | exact .inr rfl)) gs_nil)))))
      (ss_cons (s_set (i := 13) sc_law.nd rfl (by first | exact .inl rfl | exact .inr rfl) (e_callTy k_tuple (by rfl) n_tuple (by decide +kernel) (ab_cons (e_b (e_f (f_lc (own := [("row", 16)]) rfl sc_law.nd (i_seq (e_var (pv 11))) (blkOk_by (N := N_law) (sc := (defScope s_law)) (by decide +kernel)) (fun _ _ _ _ _ => (g_name (i := 16) sc_law.nd rfl (by first | exact .inl rfl | exact .inr rfl))) (fun _ _ _ _ _ => ts_nil) (fun _ _ _ _ _ => (e_callTy k_tuple (by rfl) n_tuple (by decide +kernel) (ab_cons (e_b (e_f (f_lc (own := [("to", 15)]) rfl sc_law.nd (i_rng1 (by rfl) n_range (a_cons e_int a_nil)) (blkOk_by (N := N_law) (sc := (relS _ (defScope s_law))) (by decide +kernel)) (fun _ _ _ _ _ => (g_name (i := 15) sc_law.nd rfl (by first | exact .inl rfl | exact .inr rfl))) (fun _ _ _ _ _ => ts_nil) (fun _ _ _ _ _ => (e_op o_mod (e_b (e_callTy k_int (by rfl) n_int (by decide +kernel) (ab_cons (e_b (e_callB (k_sum rfl) (by rfl) n_sum (by decide +kernel) (ab_cons (e_b (e_f (f_lc (own := [("at", 14)]) rfl sc_law.nd (i_rng1 (by rfl) n_range (a_cons e_int a_nil)) (blkOk_by (N := N_law) (sc := (relS _ (relS _ (defScope s_law)))) (by decide +kernel)) (fun _ _ _ _ _ => (g_name (i := 14) sc_law.nd rfl (by first | exact .inl rfl | exact .inr rfl))) (fun _ _ _ _ _ => ts_nil) (fun _ _ _ _ _ => (e_op o_mul (e_b (e_ix x_ix (b_var (pv 16)) (b_var (pv 14)) (fun _ _ => rfl))) (e_b (e_ix x_ix (e_b (e_ix x_ix (b_var (pv 12)) (b_var (pv 14)) (fun _ _ => rfl))) (b_var (pv 15)) (fun _ _ => rfl))))) (by decide)))) ab_nil))) ab_nil))) (b_var (pv 3)))) (by decide)))) ab_nil))) (by decide)))) ab_nil)))
      (ss_cons (s_if (PW.pt (w_or (t_cmp (o_ne hr.units) (b_var (pv 10)) (b_var (pv 13)) (nomark _)) (w_or (t_cmp (o_ne hr.units) (e_b (e_callH h_table_of (hr.mono (by decide)) (by rfl) (a_cons (e_var (pv 3)) (a_cons (e_var (pv 9)) a_nil)))) (e_b (e_callH h_tables_then (hr.mono (by decide)) (by rfl) (a_cons (e_var (pv 3)) (a_cons (e_callH h_table_of (hr.mono (by decide)) (by rfl) (a_cons (e_var (pv 3)) (a_cons (e_var (pv 4)) a_nil))) (a_cons (e_callH h_table_of (hr.mono (by decide)) (by rfl) (a_cons (e_var (pv 3)) (a_cons (e_var (pv 8)) a_nil))) a_nil))))) (nomark _)) (w_or1 (t_cmp (o_ne hr.units) (e_b (e_callH h_turn_of (hr.mono (by decide)) (by rfl) (a_cons (e_var (pv 9)) a_nil))) (e_b (e_callH h_turns_then (hr.mono (by decide)) (by rfl) (a_cons (e_callH h_turn_of (hr.mono (by decide)) (by rfl) (a_cons (e_var (pv 8)) a_nil)) (a_cons (e_callH h_turn_of (hr.mono (by decide)) (by rfl) (a_cons (e_var (pv 4)) a_nil)) a_nil)))) (nomark _)))))) (ss_one (s_ret e_bl)) ss_nil)
      (ss_cons (s_set (i := 17) sc_law.nd rfl (by first | exact .inl rfl | exact .inr rfl) (e_op o_add (e_b e_int) (e_b (e_callH h_Ltake (hr.mono (by decide)) (by rfl) (a_cons (e_var (pv 1)) (a_cons (e_op o_sub (b_var (pv 3)) (e_b e_int)) a_nil))))))
      (ss_one (s_if (PW.pt (w_or (t_cmp (o_ne hr.units) (e_b (e_callH h_Lleft (hr.mono (by decide)) (by rfl) (a_cons (e_var (pv 3)) (a_cons (e_callH h_turn_of (hr.mono (by decide)) (by rfl) (a_cons (e_tup (a_cons (e_op o_mul (e_b e_int) (b_var (pv 17))) (a_cons e_int (a_cons e_int (a_cons e_int a_nil))))) a_nil)) a_nil)))) (e_b (e_tup (a_cons (e_tup (a_cons e_int (a_cons e_int (a_cons e_int a_nil)))) (a_cons (e_tup (a_cons e_int (a_cons e_int (a_cons e_int a_nil)))) (a_cons (e_tup (a_cons e_int (a_cons e_int (a_cons e_int a_nil)))) a_nil))))) (nomark _)) (w_or1 (t_cmp (o_ne hr.units) (e_b (e_callH h_table_of (hr.mono (by decide)) (by rfl) (a_cons (e_var (pv 3)) (a_cons (e_tup (a_cons (e_op o_mul (e_b e_int) (b_var (pv 17))) (a_cons e_int (a_cons e_int (a_cons e_int a_nil))))) a_nil)))) (e_b (e_tup (a_cons (e_var (pv 17)) (a_cons e_int (a_cons e_int (a_cons (e_var (pv 17)) a_nil)))))) (nomark _))))) (ss_one (s_ret e_bl)) ss_nil))))))))))))))))
      (ss_one (s_ret e_bl))), ?_⟩
    refine ⟨.ref a, rfl, a, ns, rfl, hS, hlen, fun dr H' kp dk na nl nc => ?_⟩
    exact law_start (N := N_law) hS q (by rfl) kp dk na nl nc (math ns hlen)
end
theorem all_mk {l : PySem.W.OpenLaw} {w : World} {K : PySem.W.Frag} {h : Heap} {mg : Str → Option Value} {fa : Addr} (math : ∀ ns : List Int, ns.length ≤ 63 → (S_law (env_law ns)).All (fun o => o = .rt (.bool true))) (X : K.In h) (G : h.Ns mainGlobals mg) (hfa : mg "law" = some (.ref fa))
  {f0 : Addr} {od0 an0 : Option Addr} {sl0 : Array (Option Value)} {oc0 kV0 dc0 pm0 cd0 ct0 : Value}
  {f1 : Addr} {od1 an1 : Option Addr} {sl1 : Array (Option Value)} {oc1 kV1 dc1 pm1 cd1 ct1 : Value}
  {f2 : Addr} {od2 an2 : Option Addr} {sl2 : Array (Option Value)} {oc2 kV2 dc2 pm2 cd2 ct2 : Value}
  {f3 : Addr} {od3 an3 : Option Addr} {sl3 : Array (Option Value)} {oc3 kV3 dc3 pm3 cd3 ct3 : Value}
  {f4 : Addr} {od4 an4 : Option Addr} {sl4 : Array (Option Value)} {oc4 kV4 dc4 pm4 cd4 ct4 : Value}
  {f5 : Addr} {od5 an5 : Option Addr} {sl5 : Array (Option Value)} {oc5 kV5 dc5 pm5 cd5 ct5 : Value}
  {f6 : Addr} {od6 an6 : Option Addr} {sl6 : Array (Option Value)} {oc6 kV6 dc6 pm6 cd6 ct6 : Value}
  {f7 : Addr} {od7 an7 : Option Addr} {sl7 : Array (Option Value)} {oc7 kV7 dc7 pm7 cd7 ct7 : Value}
  {f8 : Addr} {od8 an8 : Option Addr} {sl8 : Array (Option Value)} {oc8 kV8 dc8 pm8 cd8 ct8 : Value}
  {f9 : Addr} {od9 an9 : Option Addr} {sl9 : Array (Option Value)} {oc9 kV9 dc9 pm9 cd9 ct9 : Value}
  {f10 : Addr} {od10 an10 : Option Addr} {sl10 : Array (Option Value)} {oc10 kV10 dc10 pm10 cd10 ct10 : Value}
  {f11 : Addr} {od11 an11 : Option Addr} {sl11 : Array (Option Value)} {oc11 kV11 dc11 pm11 cd11 ct11 : Value}
  {f12 : Addr} {od12 an12 : Option Addr} {sl12 : Array (Option Value)} {oc12 kV12 dc12 pm12 cd12 ct12 : Value}
  {f13 : Addr} {od13 an13 : Option Addr} {sl13 : Array (Option Value)} {oc13 kV13 dc13 pm13 cd13 ct13 : Value}
  {f14 : Addr} {od14 an14 : Option Addr} {sl14 : Array (Option Value)} {oc14 kV14 dc14 pm14 cd14 ct14 : Value}
  {f15 : Addr} {od15 an15 : Option Addr} {sl15 : Array (Option Value)} {oc15 kV15 dc15 pm15 cd15 ct15 : Value}
  {f16 : Addr} {od16 an16 : Option Addr} {sl16 : Array (Option Value)} {oc16 kV16 dc16 pm16 cd16 ct16 : Value}
  {f17 : Addr} {od17 an17 : Option Addr} {sl17 : Array (Option Value)} {oc17 kV17 dc17 pm17 cd17 ct17 : Value}
  {f18 : Addr} {od18 an18 : Option Addr} {sl18 : Array (Option Value)} {oc18 kV18 dc18 pm18 cd18 ct18 : Value}
  {f19 : Addr} {od19 an19 : Option Addr} {sl19 : Array (Option Value)} {oc19 kV19 dc19 pm19 cd19 ct19 : Value}
  {f20 : Addr} {od20 an20 : Option Addr} {sl20 : Array (Option Value)} {oc20 kV20 dc20 pm20 cd20 ct20 : Value}
  {f21 : Addr} {od21 an21 : Option Addr} {sl21 : Array (Option Value)} {oc21 kV21 dc21 pm21 cd21 ct21 : Value}
  {f22 : Addr} {od22 an22 : Option Addr} {sl22 : Array (Option Value)} {oc22 kV22 dc22 pm22 cd22 ct22 : Value}
  {f23 : Addr} {od23 an23 : Option Addr} {sl23 : Array (Option Value)} {oc23 kV23 dc23 pm23 cd23 ct23 : Value}
  {f24 : Addr} {od24 an24 : Option Addr} {sl24 : Array (Option Value)} {oc24 kV24 dc24 pm24 cd24 ct24 : Value}
  {f25 : Addr} {od25 an25 : Option Addr} {sl25 : Array (Option Value)} {oc25 kV25 dc25 pm25 cd25 ct25 : Value}
  {f26 : Addr} {od26 an26 : Option Addr} {sl26 : Array (Option Value)} {oc26 kV26 dc26 pm26 cd26 ct26 : Value}
  {f27 : Addr} {od27 an27 : Option Addr} {sl27 : Array (Option Value)} {oc27 kV27 dc27 pm27 cd27 ct27 : Value}
  {f28 : Addr} {od28 an28 : Option Addr} {sl28 : Array (Option Value)} {oc28 kV28 dc28 pm28 cd28 ct28 : Value}
  {f29 : Addr} {od29 an29 : Option Addr} {sl29 : Array (Option Value)} {oc29 kV29 dc29 pm29 cd29 ct29 : Value}
  {f30 : Addr} {od30 an30 : Option Addr} {sl30 : Array (Option Value)} {oc30 kV30 dc30 pm30 cd30 ct30 : Value}
  {f31 : Addr} {od31 an31 : Option Addr} {sl31 : Array (Option Value)} {oc31 kV31 dc31 pm31 cd31 ct31 : Value}
  {f32 : Addr} {od32 an32 : Option Addr} {sl32 : Array (Option Value)} {oc32 kV32 dc32 pm32 cd32 ct32 : Value}
  {f33 : Addr} {od33 an33 : Option Addr} {sl33 : Array (Option Value)} {oc33 kV33 dc33 pm33 cd33 ct33 : Value}
  {f34 : Addr} {od34 an34 : Option Addr} {sl34 : Array (Option Value)} {oc34 kV34 dc34 pm34 cd34 ct34 : Value}
  {f35 : Addr} {od35 an35 : Option Addr} {sl35 : Array (Option Value)} {oc35 kV35 dc35 pm35 cd35 ct35 : Value}
  {f36 : Addr} {od36 an36 : Option Addr} {sl36 : Array (Option Value)} {oc36 kV36 dc36 pm36 cd36 ct36 : Value}
  {f37 : Addr} {od37 an37 : Option Addr} {sl37 : Array (Option Value)} {oc37 kV37 dc37 pm37 cd37 ct37 : Value}
  {f38 : Addr} {od38 an38 : Option Addr} {sl38 : Array (Option Value)} {oc38 kV38 dc38 pm38 cd38 ct38 : Value}
  {f39 : Addr} {od39 an39 : Option Addr} {sl39 : Array (Option Value)} {oc39 kV39 dc39 pm39 cd39 ct39 : Value}
  {f40 : Addr} {od40 an40 : Option Addr} {sl40 : Array (Option Value)} {oc40 kV40 dc40 pm40 cd40 ct40 : Value}
  {f41 : Addr} {od41 an41 : Option Addr} {sl41 : Array (Option Value)} {oc41 kV41 dc41 pm41 cd41 ct41 : Value}
  {t_FIFTY_DIGITS : Tok}
  {t_MOST_PRIME : Tok}
  {p_NOUGHT : Addr} {oc_NOUGHT : Option Addr} {is_NOUGHT : Array Value} {in_NOUGHT : Nat} {sl_NOUGHT : Array (Option Value)}
  {t_PARTS : Tok}
  {p_SPACE : Addr} {oc_SPACE : Option Addr} {is_SPACE : Array Value} {in_SPACE : Nat} {sl_SPACE : Array (Option Value)}
  (a0 : PySem.W.nsIn K mainGlobals "_law_begun" = some (some (.ref f0))) (l0 : K.lookup f0 = some ⟨oc0, od0, .func (PySem.W.fnOf "_law_begun" "_law_begun" (defArgs s_Lbegun) (defBody s_Lbegun) (defScope s_Lbegun) .none kV0 dc0 pm0 an0 cd0 ct0), sl0⟩) (c0 : PySem.W.codeIn K cd0 "_law_begun" = true) (k0 : PySem.W.keepIn K (.ref f0) = true)
  (a1 : PySem.W.nsIn K mainGlobals "_law_mixed" = some (some (.ref f1))) (l1 : K.lookup f1 = some ⟨oc1, od1, .func (PySem.W.fnOf "_law_mixed" "_law_mixed" (defArgs s_Lmixed) (defBody s_Lmixed) (defScope s_Lmixed) .none kV1 dc1 pm1 an1 cd1 ct1), sl1⟩) (c1 : PySem.W.codeIn K cd1 "_law_mixed" = true) (k1 : PySem.W.keepIn K (.ref f1) = true)
  (a2 : PySem.W.nsIn K mainGlobals "_law_take" = some (some (.ref f2))) (l2 : K.lookup f2 = some ⟨oc2, od2, .func (PySem.W.fnOf "_law_take" "_law_take" (defArgs s_Ltake) (defBody s_Ltake) (defScope s_Ltake) .none kV2 dc2 pm2 an2 cd2 ct2), sl2⟩) (c2 : PySem.W.codeIn K cd2 "_law_take" = true) (k2 : PySem.W.keepIn K (.ref f2) = true)
  (a3 : PySem.W.nsIn K mainGlobals "is_number" = some (some (.ref f3))) (l3 : K.lookup f3 = some ⟨oc3, od3, .func (PySem.W.fnOf "is_number" "is_number" (defArgs s_is_number) (defBody s_is_number) (defScope s_is_number) .none kV3 dc3 pm3 an3 cd3 ct3), sl3⟩) (c3 : PySem.W.codeIn K cd3 "is_number" = true) (k3 : PySem.W.keepIn K (.ref f3) = true)
  (a4 : PySem.W.nsIn K mainGlobals "is_short" = some (some (.ref f4))) (l4 : K.lookup f4 = some ⟨oc4, od4, .func (PySem.W.fnOf "is_short" "is_short" (defArgs s_is_short) (defBody s_is_short) (defScope s_is_short) .none kV4 dc4 pm4 an4 cd4 ct4), sl4⟩) (c4 : PySem.W.codeIn K cd4 "is_short" = true) (k4 : PySem.W.keepIn K (.ref f4) = true)
  (a5 : PySem.W.nsIn K mainGlobals "is_quad_of" = some (some (.ref f5))) (l5 : K.lookup f5 = some ⟨oc5, od5, .func (PySem.W.fnOf "is_quad_of" "is_quad_of" (defArgs s_is_quad_of) (defBody s_is_quad_of) (defScope s_is_quad_of) .none kV5 dc5 pm5 an5 cd5 ct5), sl5⟩) (c5 : PySem.W.codeIn K cd5 "is_quad_of" = true) (k5 : PySem.W.keepIn K (.ref f5) = true)
  (a6 : PySem.W.nsIn K mainGlobals "need_quad" = some (some (.ref f6))) (l6 : K.lookup f6 = some ⟨oc6, od6, .func (PySem.W.fnOf "need_quad" "need_quad" (defArgs s_need_quad) (defBody s_need_quad) (defScope s_need_quad) .none kV6 dc6 pm6 an6 cd6 ct6), sl6⟩) (c6 : PySem.W.codeIn K cd6 "need_quad" = true) (k6 : PySem.W.keepIn K (.ref f6) = true)
  (a7 : PySem.W.nsIn K mainGlobals "need_two" = some (some (.ref f7))) (l7 : K.lookup f7 = some ⟨oc7, od7, .func (PySem.W.fnOf "need_two" "need_two" (defArgs s_need_two) (defBody s_need_two) (defScope s_need_two) .none kV7 dc7 pm7 an7 cd7 ct7), sl7⟩) (c7 : PySem.W.codeIn K cd7 "need_two" = true) (k7 : PySem.W.keepIn K (.ref f7) = true)
  (a8 : PySem.W.nsIn K mainGlobals "short_quad" = some (some (.ref f8))) (l8 : K.lookup f8 = some ⟨oc8, od8, .func (PySem.W.fnOf "short_quad" "short_quad" (defArgs s_short_quad) (defBody s_short_quad) (defScope s_short_quad) .none kV8 dc8 pm8 an8 cd8 ct8), sl8⟩) (c8 : PySem.W.codeIn K cd8 "short_quad" = true) (k8 : PySem.W.keepIn K (.ref f8) = true)
  (a9 : PySem.W.nsIn K mainGlobals "product_by" = some (some (.ref f9))) (l9 : K.lookup f9 = some ⟨oc9, od9, .func (PySem.W.fnOf "product_by" "product_by" (defArgs s_product_by) (defBody s_product_by) (defScope s_product_by) .none kV9 dc9 pm9 an9 cd9 ct9), sl9⟩) (c9 : PySem.W.codeIn K cd9 "product_by" = true) (k9 : PySem.W.keepIn K (.ref f9) = true)
  (a10 : PySem.W.nsIn K mainGlobals "plus_by" = some (some (.ref f10))) (l10 : K.lookup f10 = some ⟨oc10, od10, .func (PySem.W.fnOf "plus_by" "plus_by" (defArgs s_plus_by) (defBody s_plus_by) (defScope s_plus_by) .none kV10 dc10 pm10 an10 cd10 ct10), sl10⟩) (c10 : PySem.W.codeIn K cd10 "plus_by" = true) (k10 : PySem.W.keepIn K (.ref f10) = true)
  (a11 : PySem.W.nsIn K mainGlobals "product" = some (some (.ref f11))) (l11 : K.lookup f11 = some ⟨oc11, od11, .func (PySem.W.fnOf "product" "product" (defArgs s_product) (defBody s_product) (defScope s_product) .none kV11 dc11 pm11 an11 cd11 ct11), sl11⟩) (c11 : PySem.W.codeIn K cd11 "product" = true) (k11 : PySem.W.keepIn K (.ref f11) = true)
  (a12 : PySem.W.nsIn K mainGlobals "plus" = some (some (.ref f12))) (l12 : K.lookup f12 = some ⟨oc12, od12, .func (PySem.W.fnOf "plus" "plus" (defArgs s_plus) (defBody s_plus) (defScope s_plus) .none kV12 dc12 pm12 an12 cd12 ct12), sl12⟩) (c12 : PySem.W.codeIn K cd12 "plus" = true) (k12 : PySem.W.keepIn K (.ref f12) = true)
  (a13 : PySem.W.nsIn K mainGlobals "are_three" = some (some (.ref f13))) (l13 : K.lookup f13 = some ⟨oc13, od13, .func (PySem.W.fnOf "are_three" "are_three" (defArgs s_are_three) (defBody s_are_three) (defScope s_are_three) .none kV13 dc13 pm13 an13 cd13 ct13), sl13⟩) (c13 : PySem.W.codeIn K cd13 "are_three" = true) (k13 : PySem.W.keepIn K (.ref f13) = true)
  (a14 : PySem.W.nsIn K mainGlobals "shortened" = some (some (.ref f14))) (l14 : K.lookup f14 = some ⟨oc14, od14, .func (PySem.W.fnOf "shortened" "shortened" (defArgs s_shortened) (defBody s_shortened) (defScope s_shortened) .none kV14 dc14 pm14 an14 cd14 ct14), sl14⟩) (c14 : PySem.W.codeIn K cd14 "shortened" = true) (k14 : PySem.W.keepIn K (.ref f14) = true)
  (a15 : PySem.W.nsIn K mainGlobals "across" = some (some (.ref f15))) (l15 : K.lookup f15 = some ⟨oc15, od15, .func (PySem.W.fnOf "across" "across" (defArgs s_across) (defBody s_across) (defScope s_across) .none kV15 dc15 pm15 an15 cd15 ct15), sl15⟩) (c15 : PySem.W.codeIn K cd15 "across" = true) (k15 : PySem.W.keepIn K (.ref f15) = true)
  (a16 : PySem.W.nsIn K mainGlobals "determinant_of" = some (some (.ref f16))) (l16 : K.lookup f16 = some ⟨oc16, od16, .func (PySem.W.fnOf "determinant_of" "determinant_of" (defArgs s_determinant_of) (defBody s_determinant_of) (defScope s_determinant_of) .none kV16 dc16 pm16 an16 cd16 ct16), sl16⟩) (c16 : PySem.W.codeIn K cd16 "determinant_of" = true) (k16 : PySem.W.keepIn K (.ref f16) = true)
  (a17 : PySem.W.nsIn K mainGlobals "is_turn_of" = some (some (.ref f17))) (l17 : K.lookup f17 = some ⟨oc17, od17, .func (PySem.W.fnOf "is_turn_of" "is_turn_of" (defArgs s_is_turn_of) (defBody s_is_turn_of) (defScope s_is_turn_of) .none kV17 dc17 pm17 an17 cd17 ct17), sl17⟩) (c17 : PySem.W.codeIn K cd17 "is_turn_of" = true) (k17 : PySem.W.keepIn K (.ref f17) = true)
  (a18 : PySem.W.nsIn K mainGlobals "unshortened" = some (some (.ref f18))) (l18 : K.lookup f18 = some ⟨oc18, od18, .func (PySem.W.fnOf "unshortened" "unshortened" (defArgs s_unshortened) (defBody s_unshortened) (defScope s_unshortened) .none kV18 dc18 pm18 an18 cd18 ct18), sl18⟩) (c18 : PySem.W.codeIn K cd18 "unshortened" = true) (k18 : PySem.W.keepIn K (.ref f18) = true)
  (a19 : PySem.W.nsIn K mainGlobals "turn_by" = some (some (.ref f19))) (l19 : K.lookup f19 = some ⟨oc19, od19, .func (PySem.W.fnOf "turn_by" "turn_by" (defArgs s_turn_by) (defBody s_turn_by) (defScope s_turn_by) .none kV19 dc19 pm19 an19 cd19 ct19), sl19⟩) (c19 : PySem.W.codeIn K cd19 "turn_by" = true) (k19 : PySem.W.keepIn K (.ref f19) = true)
  (a20 : PySem.W.nsIn K mainGlobals "turns_behind" = some (some (.ref f20))) (l20 : K.lookup f20 = some ⟨oc20, od20, .func (PySem.W.fnOf "turns_behind" "turns_behind" (defArgs s_turns_behind) (defBody s_turns_behind) (defScope s_turns_behind) .none kV20 dc20 pm20 an20 cd20 ct20), sl20⟩) (c20 : PySem.W.codeIn K cd20 "turns_behind" = true) (k20 : PySem.W.keepIn K (.ref f20) = true)
  (a21 : PySem.W.nsIn K mainGlobals "turn_of" = some (some (.ref f21))) (l21 : K.lookup f21 = some ⟨oc21, od21, .func (PySem.W.fnOf "turn_of" "turn_of" (defArgs s_turn_of) (defBody s_turn_of) (defScope s_turn_of) .none kV21 dc21 pm21 an21 cd21 ct21), sl21⟩) (c21 : PySem.W.codeIn K cd21 "turn_of" = true) (k21 : PySem.W.keepIn K (.ref f21) = true)
  (a22 : PySem.W.nsIn K mainGlobals "turns_then" = some (some (.ref f22))) (l22 : K.lookup f22 = some ⟨oc22, od22, .func (PySem.W.fnOf "turns_then" "turns_then" (defArgs s_turns_then) (defBody s_turns_then) (defScope s_turns_then) .none kV22 dc22 pm22 an22 cd22 ct22), sl22⟩) (c22 : PySem.W.codeIn K cd22 "turns_then" = true) (k22 : PySem.W.keepIn K (.ref f22) = true)
  (a23 : PySem.W.nsIn K mainGlobals "is_prime" = some (some (.ref f23))) (l23 : K.lookup f23 = some ⟨oc23, od23, .func (PySem.W.fnOf "is_prime" "is_prime" (defArgs s_is_prime) (defBody s_is_prime) (defScope s_is_prime) .none kV23 dc23 pm23 an23 cd23 ct23), sl23⟩) (c23 : PySem.W.codeIn K cd23 "is_prime" = true) (k23 : PySem.W.keepIn K (.ref f23) = true)
  (a24 : PySem.W.nsIn K mainGlobals "need_prime" = some (some (.ref f24))) (l24 : K.lookup f24 = some ⟨oc24, od24, .func (PySem.W.fnOf "need_prime" "need_prime" (defArgs s_need_prime) (defBody s_need_prime) (defScope s_need_prime) .none kV24 dc24 pm24 an24 cd24 ct24), sl24⟩) (c24 : PySem.W.codeIn K cd24 "need_prime" = true) (k24 : PySem.W.keepIn K (.ref f24) = true)
  (a25 : PySem.W.nsIn K mainGlobals "need_odd" = some (some (.ref f25))) (l25 : K.lookup f25 = some ⟨oc25, od25, .func (PySem.W.fnOf "need_odd" "need_odd" (defArgs s_need_odd) (defBody s_need_odd) (defScope s_need_odd) .none kV25 dc25 pm25 an25 cd25 ct25), sl25⟩) (c25 : PySem.W.codeIn K cd25 "need_odd" = true) (k25 : PySem.W.keepIn K (.ref f25) = true)
  (a26 : PySem.W.nsIn K mainGlobals "is_table_of" = some (some (.ref f26))) (l26 : K.lookup f26 = some ⟨oc26, od26, .func (PySem.W.fnOf "is_table_of" "is_table_of" (defArgs s_is_table_of) (defBody s_is_table_of) (defScope s_is_table_of) .none kV26 dc26 pm26 an26 cd26 ct26), sl26⟩) (c26 : PySem.W.codeIn K cd26 "is_table_of" = true) (k26 : PySem.W.keepIn K (.ref f26) = true)
  (a27 : PySem.W.nsIn K mainGlobals "marks_by" = some (some (.ref f27))) (l27 : K.lookup f27 = some ⟨oc27, od27, .func (PySem.W.fnOf "marks_by" "marks_by" (defArgs s_marks_by) (defBody s_marks_by) (defScope s_marks_by) .none kV27 dc27 pm27 an27 cd27 ct27), sl27⟩) (c27 : PySem.W.codeIn K cd27 "marks_by" = true) (k27 : PySem.W.keepIn K (.ref f27) = true)
  (a28 : PySem.W.nsIn K mainGlobals "half_by" = some (some (.ref f28))) (l28 : K.lookup f28 = some ⟨oc28, od28, .func (PySem.W.fnOf "half_by" "half_by" (defArgs s_half_by) (defBody s_half_by) (defScope s_half_by) .none kV28 dc28 pm28 an28 cd28 ct28), sl28⟩) (c28 : PySem.W.codeIn K cd28 "half_by" = true) (k28 : PySem.W.keepIn K (.ref f28) = true)
  (a29 : PySem.W.nsIn K mainGlobals "table_by" = some (some (.ref f29))) (l29 : K.lookup f29 = some ⟨oc29, od29, .func (PySem.W.fnOf "table_by" "table_by" (defArgs s_table_by) (defBody s_table_by) (defScope s_table_by) .none kV29 dc29 pm29 an29 cd29 ct29), sl29⟩) (c29 : PySem.W.codeIn K cd29 "table_by" = true) (k29 : PySem.W.keepIn K (.ref f29) = true)
  (a30 : PySem.W.nsIn K mainGlobals "then_by" = some (some (.ref f30))) (l30 : K.lookup f30 = some ⟨oc30, od30, .func (PySem.W.fnOf "then_by" "then_by" (defArgs s_then_by) (defBody s_then_by) (defScope s_then_by) .none kV30 dc30 pm30 an30 cd30 ct30), sl30⟩) (c30 : PySem.W.codeIn K cd30 "then_by" = true) (k30 : PySem.W.keepIn K (.ref f30) = true)
  (a31 : PySem.W.nsIn K mainGlobals "quad_by" = some (some (.ref f31))) (l31 : K.lookup f31 = some ⟨oc31, od31, .func (PySem.W.fnOf "quad_by" "quad_by" (defArgs s_quad_by) (defBody s_quad_by) (defScope s_quad_by) .none kV31 dc31 pm31 an31 cd31 ct31), sl31⟩) (c31 : PySem.W.codeIn K cd31 "quad_by" = true) (k31 : PySem.W.keepIn K (.ref f31) = true)
  (a32 : PySem.W.nsIn K mainGlobals "table_of" = some (some (.ref f32))) (l32 : K.lookup f32 = some ⟨oc32, od32, .func (PySem.W.fnOf "table_of" "table_of" (defArgs s_table_of) (defBody s_table_of) (defScope s_table_of) .none kV32 dc32 pm32 an32 cd32 ct32), sl32⟩) (c32 : PySem.W.codeIn K cd32 "table_of" = true) (k32 : PySem.W.keepIn K (.ref f32) = true)
  (a33 : PySem.W.nsIn K mainGlobals "tables_then" = some (some (.ref f33))) (l33 : K.lookup f33 = some ⟨oc33, od33, .func (PySem.W.fnOf "tables_then" "tables_then" (defArgs s_tables_then) (defBody s_tables_then) (defScope s_tables_then) .none kV33 dc33 pm33 an33 cd33 ct33), sl33⟩) (c33 : PySem.W.codeIn K cd33 "tables_then" = true) (k33 : PySem.W.keepIn K (.ref f33) = true)
  (a34 : PySem.W.nsIn K mainGlobals "quad_of_table" = some (some (.ref f34))) (l34 : K.lookup f34 = some ⟨oc34, od34, .func (PySem.W.fnOf "quad_of_table" "quad_of_table" (defArgs s_quad_of_table) (defBody s_quad_of_table) (defScope s_quad_of_table) .none kV34 dc34 pm34 an34 cd34 ct34), sl34⟩) (c34 : PySem.W.codeIn K cd34 "quad_of_table" = true) (k34 : PySem.W.keepIn K (.ref f34) = true)
  (a35 : PySem.W.nsIn K mainGlobals "_law_pick" = some (some (.ref f35))) (l35 : K.lookup f35 = some ⟨oc35, od35, .func (PySem.W.fnOf "_law_pick" "_law_pick" (defArgs s_Lpick) (defBody s_Lpick) (defScope s_Lpick) .none kV35 dc35 pm35 an35 cd35 ct35), sl35⟩) (c35 : PySem.W.codeIn K cd35 "_law_pick" = true) (k35 : PySem.W.keepIn K (.ref f35) = true)
  (a36 : PySem.W.nsIn K mainGlobals "_law_size" = some (some (.ref f36))) (l36 : K.lookup f36 = some ⟨oc36, od36, .func (PySem.W.fnOf "_law_size" "_law_size" (defArgs s_Lsize) (defBody s_Lsize) (defScope s_Lsize) .none kV36 dc36 pm36 an36 cd36 ct36), sl36⟩) (c36 : PySem.W.codeIn K cd36 "_law_size" = true) (k36 : PySem.W.keepIn K (.ref f36) = true)
  (a37 : PySem.W.nsIn K mainGlobals "_law_quad" = some (some (.ref f37))) (l37 : K.lookup f37 = some ⟨oc37, od37, .func (PySem.W.fnOf "_law_quad" "_law_quad" (defArgs s_Lquad) (defBody s_Lquad) (defScope s_Lquad) .none kV37 dc37 pm37 an37 cd37 ct37), sl37⟩) (c37 : PySem.W.codeIn K cd37 "_law_quad" = true) (k37 : PySem.W.keepIn K (.ref f37) = true)
  (a38 : PySem.W.nsIn K mainGlobals "_law_some_quad" = some (some (.ref f38))) (l38 : K.lookup f38 = some ⟨oc38, od38, .func (PySem.W.fnOf "_law_some_quad" "_law_some_quad" (defArgs s_Lsome_quad) (defBody s_Lsome_quad) (defScope s_Lsome_quad) .none kV38 dc38 pm38 an38 cd38 ct38), sl38⟩) (c38 : PySem.W.codeIn K cd38 "_law_some_quad" = true) (k38 : PySem.W.keepIn K (.ref f38) = true)
  (a39 : PySem.W.nsIn K mainGlobals "_law_net_quad" = some (some (.ref f39))) (l39 : K.lookup f39 = some ⟨oc39, od39, .func (PySem.W.fnOf "_law_net_quad" "_law_net_quad" (defArgs s_Lnet_quad) (defBody s_Lnet_quad) (defScope s_Lnet_quad) .none kV39 dc39 pm39 an39 cd39 ct39), sl39⟩) (c39 : PySem.W.codeIn K cd39 "_law_net_quad" = true) (k39 : PySem.W.keepIn K (.ref f39) = true)
  (a40 : PySem.W.nsIn K mainGlobals "_law_left" = some (some (.ref f40))) (l40 : K.lookup f40 = some ⟨oc40, od40, .func (PySem.W.fnOf "_law_left" "_law_left" (defArgs s_Lleft) (defBody s_Lleft) (defScope s_Lleft) .none kV40 dc40 pm40 an40 cd40 ct40), sl40⟩) (c40 : PySem.W.codeIn K cd40 "_law_left" = true) (k40 : PySem.W.keepIn K (.ref f40) = true)
  (a41 : PySem.W.nsIn K mainGlobals "law" = some (some (.ref f41))) (l41 : K.lookup f41 = some ⟨oc41, od41, .func (PySem.W.fnOf "law" "law" (defArgs s_law) (defBody s_law) (defScope s_law) .none kV41 dc41 pm41 an41 cd41 ct41), sl41⟩) (c41 : PySem.W.codeIn K cd41 "law" = true) (k41 : PySem.W.keepIn K (.ref f41) = true)
  (z_abs : PySem.W.nsIn K mainGlobals "abs" = some none)
  (z_all : PySem.W.nsIn K mainGlobals "all" = some none)
  (z_bool : PySem.W.nsIn K mainGlobals "bool" = some none)
  (z_int : PySem.W.nsIn K mainGlobals "int" = some none)
  (z_isinstance : PySem.W.nsIn K mainGlobals "isinstance" = some none)
  (z_len : PySem.W.nsIn K mainGlobals "len" = some none)
  (z_min : PySem.W.nsIn K mainGlobals "min" = some none)
  (z_range : PySem.W.nsIn K mainGlobals "range" = some none)
  (z_sum : PySem.W.nsIn K mainGlobals "sum" = some none)
  (z_tuple : PySem.W.nsIn K mainGlobals "tuple" = some none)
  (z_zip : PySem.W.nsIn K mainGlobals "zip" = some none)
  (z_gcd : PySem.W.nsIn K mainGlobals "gcd" = some (some (.builtin "math.gcd")))
  (z_FIFTY_DIGITS : PySem.W.nsIn K mainGlobals "FIFTY_DIGITS" = some (some (.int 100000000000000000000000000000000000000000000000000 t_FIFTY_DIGITS)))
  (z_MOST_PRIME : PySem.W.nsIn K mainGlobals "MOST_PRIME" = some (some (.int 1000 t_MOST_PRIME)))
  (z_NOUGHT : PySem.W.nsIn K mainGlobals "NOUGHT" = some (some (.ref p_NOUGHT))) (y_NOUGHT : K.lookup p_NOUGHT = some ⟨.type "tuple", oc_NOUGHT, .seq is_NOUGHT in_NOUGHT, sl_NOUGHT⟩) (x_NOUGHT : intsOf is_NOUGHT.toList = some [0, 0, 0, 0])
  (z_PARTS : PySem.W.nsIn K mainGlobals "PARTS" = some (some (.int 4 t_PARTS)))
  (z_SPACE : PySem.W.nsIn K mainGlobals "SPACE" = some (some (.ref p_SPACE))) (y_SPACE : K.lookup p_SPACE = some ⟨.type "tuple", oc_SPACE, .seq is_SPACE in_SPACE, sl_SPACE⟩) (x_SPACE : intsOf is_SPACE.toList = some [0, 1, 2]) :
    ∃ fd : FuncData, (∀ (s : Shared) (v : Value), BindsTo s fd ⟨[v], []⟩ [("script", v)]) ∧ ∀ base : Heap, K.In base → base.Ns mainGlobals mg → FnOk l.prog w K mg base CX0 6 fa fd ["script"] (spLaw K) := by
  have e := hfa.symm.trans (PySem.W.mg_of X G a41)
  cases e
  have F0 := fun_mk (st := s_Lbegun) l0 c0 k0
  have A0 : DefAt K mg "_law_begun" s_Lbegun ["script"] := ⟨_, _, F0, F0.binds (ps := ["script"]) fun _ _ _ _ _ _ us hl => match us, hl with | [_], _ => rfl, PySem.W.mg_of X G a0⟩
  have F1 := fun_mk (st := s_Lmixed) l1 c1 k1
  have A1 : DefAt K mg "_law_mixed" s_Lmixed ["draw"] := ⟨_, _, F1, F1.binds (ps := ["draw"]) fun _ _ _ _ _ _ us hl => match us, hl with | [_], _ => rfl, PySem.W.mg_of X G a1⟩
  have F2 := fun_mk (st := s_Ltake) l2 c2 k2
  have A2 : DefAt K mg "_law_take" s_Ltake ["draw", "amount"] := ⟨_, _, F2, F2.binds (ps := ["draw", "amount"]) fun _ _ _ _ _ _ us hl => match us, hl with | [_, _], _ => rfl, PySem.W.mg_of X G a2⟩
  have F3 := fun_mk (st := s_is_number) l3 c3 k3
  have A3 : DefAt K mg "is_number" s_is_number ["thing"] := ⟨_, _, F3, F3.binds (ps := ["thing"]) fun _ _ _ _ _ _ us hl => match us, hl with | [_], _ => rfl, PySem.W.mg_of X G a3⟩
  have F4 := fun_mk (st := s_is_short) l4 c4 k4
  have A4 : DefAt K mg "is_short" s_is_short ["thing"] := ⟨_, _, F4, F4.binds (ps := ["thing"]) fun _ _ _ _ _ _ us hl => match us, hl with | [_], _ => rfl, PySem.W.mg_of X G a4⟩
  have F5 := fun_mk (st := s_is_quad_of) l5 c5 k5
  have A5 : DefAt K mg "is_quad_of" s_is_quad_of ["thing"] := ⟨_, _, F5, F5.binds (ps := ["thing"]) fun _ _ _ _ _ _ us hl => match us, hl with | [_], _ => rfl, PySem.W.mg_of X G a5⟩
  have F6 := fun_mk (st := s_need_quad) l6 c6 k6
  have A6 : DefAt K mg "need_quad" s_need_quad ["quad"] := ⟨_, _, F6, F6.binds (ps := ["quad"]) fun _ _ _ _ _ _ us hl => match us, hl with | [_], _ => rfl, PySem.W.mg_of X G a6⟩
  have F7 := fun_mk (st := s_need_two) l7 c7 k7
  have A7 : DefAt K mg "need_two" s_need_two ["one", "other"] := ⟨_, _, F7, F7.binds (ps := ["one", "other"]) fun _ _ _ _ _ _ us hl => match us, hl with | [_, _], _ => rfl, PySem.W.mg_of X G a7⟩
  have F8 := fun_mk (st := s_short_quad) l8 c8 k8
  have A8 : DefAt K mg "short_quad" s_short_quad ["quad"] := ⟨_, _, F8, F8.binds (ps := ["quad"]) fun _ _ _ _ _ _ us hl => match us, hl with | [_], _ => rfl, PySem.W.mg_of X G a8⟩
  have F9 := fun_mk (st := s_product_by) l9 c9 k9
  have A9 : DefAt K mg "product_by" s_product_by ["one", "other"] := ⟨_, _, F9, F9.binds (ps := ["one", "other"]) fun _ _ _ _ _ _ us hl => match us, hl with | [_, _], _ => rfl, PySem.W.mg_of X G a9⟩
  have F10 := fun_mk (st := s_plus_by) l10 c10 k10
  have A10 : DefAt K mg "plus_by" s_plus_by ["one", "other", "many"] := ⟨_, _, F10, F10.binds (ps := ["one", "other", "many"]) fun _ _ _ _ _ _ us hl => match us, hl with | [_, _, _], _ => rfl, PySem.W.mg_of X G a10⟩
  have F11 := fun_mk (st := s_product) l11 c11 k11
  have A11 : DefAt K mg "product" s_product ["one", "other"] := ⟨_, _, F11, F11.binds (ps := ["one", "other"]) fun _ _ _ _ _ _ us hl => match us, hl with | [_, _], _ => rfl, PySem.W.mg_of X G a11⟩
  have F12 := fun_mk (st := s_plus) l12 c12 k12
  have A12 : DefAt K mg "plus" s_plus ["one", "other", "many"] := ⟨_, _, F12, F12.binds (ps := ["one", "other", "many"]) fun _ _ _ _ _ _ us hl => match us, hl with | [_, _, _], _ => rfl, PySem.W.mg_of X G a12⟩
  have F13 := fun_mk (st := s_are_three) l13 c13 k13
  have A13 : DefAt K mg "are_three" s_are_three ["thing"] := ⟨_, _, F13, F13.binds (ps := ["thing"]) fun _ _ _ _ _ _ us hl => match us, hl with | [_], _ => rfl, PySem.W.mg_of X G a13⟩
  have F14 := fun_mk (st := s_shortened) l14 c14 k14
  have A14 : DefAt K mg "shortened" s_shortened ["below", "rows"] := ⟨_, _, F14, F14.binds (ps := ["below", "rows"]) fun _ _ _ _ _ _ us hl => match us, hl with | [_, _], _ => rfl, PySem.W.mg_of X G a14⟩
  have F15 := fun_mk (st := s_across) l15 c15 k15
  have A15 : DefAt K mg "across" s_across ["one", "other"] := ⟨_, _, F15, F15.binds (ps := ["one", "other"]) fun _ _ _ _ _ _ us hl => match us, hl with | [_, _], _ => rfl, PySem.W.mg_of X G a15⟩
  have F16 := fun_mk (st := s_determinant_of) l16 c16 k16
  have A16 : DefAt K mg "determinant_of" s_determinant_of ["rows"] := ⟨_, _, F16, F16.binds (ps := ["rows"]) fun _ _ _ _ _ _ us hl => match us, hl with | [_], _ => rfl, PySem.W.mg_of X G a16⟩
  have F17 := fun_mk (st := s_is_turn_of) l17 c17 k17
  have A17 : DefAt K mg "is_turn_of" s_is_turn_of ["thing"] := ⟨_, _, F17, F17.binds (ps := ["thing"]) fun _ _ _ _ _ _ us hl => match us, hl with | [_], _ => rfl, PySem.W.mg_of X G a17⟩
  have F18 := fun_mk (st := s_unshortened) l18 c18 k18
  have A18 : DefAt K mg "unshortened" s_unshortened ["quad"] := ⟨_, _, F18, F18.binds (ps := ["quad"]) fun _ _ _ _ _ _ us hl => match us, hl with | [_], _ => rfl, PySem.W.mg_of X G a18⟩
  have F19 := fun_mk (st := s_turn_by) l19 c19 k19
  have A19 : DefAt K mg "turn_by" s_turn_by ["quad"] := ⟨_, _, F19, F19.binds (ps := ["quad"]) fun _ _ _ _ _ _ us hl => match us, hl with | [_], _ => rfl, PySem.W.mg_of X G a19⟩
  have F20 := fun_mk (st := s_turns_behind) l20 c20 k20
  have A20 : DefAt K mg "turns_behind" s_turns_behind ["one", "other"] := ⟨_, _, F20, F20.binds (ps := ["one", "other"]) fun _ _ _ _ _ _ us hl => match us, hl with | [_, _], _ => rfl, PySem.W.mg_of X G a20⟩
  have F21 := fun_mk (st := s_turn_of) l21 c21 k21
  have A21 : DefAt K mg "turn_of" s_turn_of ["quad"] := ⟨_, _, F21, F21.binds (ps := ["quad"]) fun _ _ _ _ _ _ us hl => match us, hl with | [_], _ => rfl, PySem.W.mg_of X G a21⟩
  have F22 := fun_mk (st := s_turns_then) l22 c22 k22
  have A22 : DefAt K mg "turns_then" s_turns_then ["one", "other"] := ⟨_, _, F22, F22.binds (ps := ["one", "other"]) fun _ _ _ _ _ _ us hl => match us, hl with | [_, _], _ => rfl, PySem.W.mg_of X G a22⟩
  have F23 := fun_mk (st := s_is_prime) l23 c23 k23
  have A23 : DefAt K mg "is_prime" s_is_prime ["thing"] := ⟨_, _, F23, F23.binds (ps := ["thing"]) fun _ _ _ _ _ _ us hl => match us, hl with | [_], _ => rfl, PySem.W.mg_of X G a23⟩
  have F24 := fun_mk (st := s_need_prime) l24 c24 k24
  have A24 : DefAt K mg "need_prime" s_need_prime ["prime"] := ⟨_, _, F24, F24.binds (ps := ["prime"]) fun _ _ _ _ _ _ us hl => match us, hl with | [_], _ => rfl, PySem.W.mg_of X G a24⟩
  have F25 := fun_mk (st := s_need_odd) l25 c25 k25
  have A25 : DefAt K mg "need_odd" s_need_odd ["prime"] := ⟨_, _, F25, F25.binds (ps := ["prime"]) fun _ _ _ _ _ _ us hl => match us, hl with | [_], _ => rfl, PySem.W.mg_of X G a25⟩
  have F26 := fun_mk (st := s_is_table_of) l26 c26 k26
  have A26 : DefAt K mg "is_table_of" s_is_table_of ["prime", "thing"] := ⟨_, _, F26, F26.binds (ps := ["prime", "thing"]) fun _ _ _ _ _ _ us hl => match us, hl with | [_, _], _ => rfl, PySem.W.mg_of X G a26⟩
  have F27 := fun_mk (st := s_marks_by) l27 c27 k27
  have A27 : DefAt K mg "marks_by" s_marks_by ["prime"] := ⟨_, _, F27, F27.binds (ps := ["prime"]) fun _ _ _ _ _ _ us hl => match us, hl with | [_], _ => rfl, PySem.W.mg_of X G a27⟩
  have F28 := fun_mk (st := s_half_by) l28 c28 k28
  have A28 : DefAt K mg "half_by" s_half_by ["prime", "number"] := ⟨_, _, F28, F28.binds (ps := ["prime", "number"]) fun _ _ _ _ _ _ us hl => match us, hl with | [_, _], _ => rfl, PySem.W.mg_of X G a28⟩
  have F29 := fun_mk (st := s_table_by) l29 c29 k29
  have A29 : DefAt K mg "table_by" s_table_by ["prime", "quad"] := ⟨_, _, F29, F29.binds (ps := ["prime", "quad"]) fun _ _ _ _ _ _ us hl => match us, hl with | [_, _], _ => rfl, PySem.W.mg_of X G a29⟩
  have F30 := fun_mk (st := s_then_by) l30 c30 k30
  have A30 : DefAt K mg "then_by" s_then_by ["prime", "one", "other"] := ⟨_, _, F30, F30.binds (ps := ["prime", "one", "other"]) fun _ _ _ _ _ _ us hl => match us, hl with | [_, _, _], _ => rfl, PySem.W.mg_of X G a30⟩
  have F31 := fun_mk (st := s_quad_by) l31 c31 k31
  have A31 : DefAt K mg "quad_by" s_quad_by ["prime", "table"] := ⟨_, _, F31, F31.binds (ps := ["prime", "table"]) fun _ _ _ _ _ _ us hl => match us, hl with | [_, _], _ => rfl, PySem.W.mg_of X G a31⟩
  have F32 := fun_mk (st := s_table_of) l32 c32 k32
  have A32 : DefAt K mg "table_of" s_table_of ["prime", "quad"] := ⟨_, _, F32, F32.binds (ps := ["prime", "quad"]) fun _ _ _ _ _ _ us hl => match us, hl with | [_, _], _ => rfl, PySem.W.mg_of X G a32⟩
  have F33 := fun_mk (st := s_tables_then) l33 c33 k33
  have A33 : DefAt K mg "tables_then" s_tables_then ["prime", "one", "other"] := ⟨_, _, F33, F33.binds (ps := ["prime", "one", "other"]) fun _ _ _ _ _ _ us hl => match us, hl with | [_, _, _], _ => rfl, PySem.W.mg_of X G a33⟩
  have F34 := fun_mk (st := s_quad_of_table) l34 c34 k34
  have A34 : DefAt K mg "quad_of_table" s_quad_of_table ["prime", "table"] := ⟨_, _, F34, F34.binds (ps := ["prime", "table"]) fun _ _ _ _ _ _ us hl => match us, hl with | [_, _], _ => rfl, PySem.W.mg_of X G a34⟩
  have F35 := fun_mk (st := s_Lpick) l35 c35 k35
  have A35 : DefAt K mg "_law_pick" s_Lpick ["draw", "some"] := ⟨_, _, F35, F35.binds (ps := ["draw", "some"]) fun _ _ _ _ _ _ us hl => match us, hl with | [_, _], _ => rfl, PySem.W.mg_of X G a35⟩
  have F36 := fun_mk (st := s_Lsize) l36 c36 k36
  have A36 : DefAt K mg "_law_size" s_Lsize ["quad"] := ⟨_, _, F36, F36.binds (ps := ["quad"]) fun _ _ _ _ _ _ us hl => match us, hl with | [_], _ => rfl, PySem.W.mg_of X G a36⟩
  have F37 := fun_mk (st := s_Lquad) l37 c37 k37
  have A37 : DefAt K mg "_law_quad" s_Lquad ["draw"] := ⟨_, _, F37, F37.binds (ps := ["draw"]) fun _ _ _ _ _ _ us hl => match us, hl with | [_], _ => rfl, PySem.W.mg_of X G a37⟩
  have F38 := fun_mk (st := s_Lsome_quad) l38 c38 k38
  have A38 : DefAt K mg "_law_some_quad" s_Lsome_quad ["draw"] := ⟨_, _, F38, F38.binds (ps := ["draw"]) fun _ _ _ _ _ _ us hl => match us, hl with | [_], _ => rfl, PySem.W.mg_of X G a38⟩
  have F39 := fun_mk (st := s_Lnet_quad) l39 c39 k39
  have A39 : DefAt K mg "_law_net_quad" s_Lnet_quad ["draw", "q"] := ⟨_, _, F39, F39.binds (ps := ["draw", "q"]) fun _ _ _ _ _ _ us hl => match us, hl with | [_, _], _ => rfl, PySem.W.mg_of X G a39⟩
  have F40 := fun_mk (st := s_Lleft) l40 c40 k40
  have A40 : DefAt K mg "_law_left" s_Lleft ["q", "told"] := ⟨_, _, F40, F40.binds (ps := ["q", "told"]) fun _ _ _ _ _ _ us hl => match us, hl with | [_, _], _ => rfl, PySem.W.mg_of X G a40⟩
  have F41 := fun_mk (st := s_law) l41 c41 k41
  have A41 : DefAt K mg "law" s_law ["script"] := ⟨_, _, F41, F41.binds (ps := ["script"]) fun _ _ _ _ _ _ us hl => match us, hl with | [_], _ => rfl, PySem.W.mg_of X G a41⟩
  have n_abs := PySem.W.mg_none_of X G z_abs
  have n_all := PySem.W.mg_none_of X G z_all
  have n_bool := PySem.W.mg_none_of X G z_bool
  have n_int := PySem.W.mg_none_of X G z_int
  have n_isinstance := PySem.W.mg_none_of X G z_isinstance
  have n_len := PySem.W.mg_none_of X G z_len
  have n_min := PySem.W.mg_none_of X G z_min
  have n_range := PySem.W.mg_none_of X G z_range
  have n_sum := PySem.W.mg_none_of X G z_sum
  have n_tuple := PySem.W.mg_none_of X G z_tuple
  have n_zip := PySem.W.mg_none_of X G z_zip
  have n_gcd := PySem.W.mg_of X G z_gcd
  have c_FIFTY_DIGITS : CstAt K mg "FIFTY_DIGITS" D_FIFTY_DIGITS := cst_int (PySem.W.mg_of X G z_FIFTY_DIGITS)
  have c_MOST_PRIME : CstAt K mg "MOST_PRIME" D_MOST_PRIME := cst_int (PySem.W.mg_of X G z_MOST_PRIME)
  have c_NOUGHT : CstAt K mg "NOUGHT" D_NOUGHT := cst_tupI (PySem.W.mg_of X G z_NOUGHT) y_NOUGHT x_NOUGHT
  have c_PARTS : CstAt K mg "PARTS" D_PARTS := cst_int (PySem.W.mg_of X G z_PARTS)
  have c_SPACE : CstAt K mg "SPACE" D_SPACE := cst_tupI (PySem.W.mg_of X G z_SPACE) y_SPACE x_SPACE
  refine ⟨PySem.W.fnOf "law" "law" (defArgs s_law) (defBody s_law) (defScope s_law) .none kV41 dc41 pm41 an41 cd41 ct41, fun s v => .of_eq rfl, fun base _ _ => ?_⟩
  have h_Lbegun := ok_Lbegun (P := l.prog) (w := w) (base := base) A0 n_abs
  have h_Lmixed := ok_Lmixed (P := l.prog) (w := w) (base := base) A1 n_int
  have h_Ltake := ok_Ltake (P := l.prog) (w := w) (base := base) A2 h_Lmixed n_int
  have h_is_number := ok_is_number (P := l.prog) (w := w) (base := base) A3 n_bool n_int n_isinstance
  have h_is_short := ok_is_short (P := l.prog) (w := w) (base := base) A4 h_is_number n_abs c_FIFTY_DIGITS
  have h_is_quad_of := ok_is_quad_of (P := l.prog) (w := w) (base := base) A5 h_is_short n_all n_isinstance n_len n_tuple c_PARTS
  have h_need_quad := ok_need_quad (P := l.prog) (w := w) (base := base) A6 h_is_quad_of
  have h_need_two := ok_need_two (P := l.prog) (w := w) (base := base) A7 h_is_quad_of
  have h_short_quad := ok_short_quad (P := l.prog) (w := w) (base := base) A8 h_is_short n_all
  have h_product_by := ok_product_by (P := l.prog) (w := w) (base := base) A9
  have h_plus_by := ok_plus_by (P := l.prog) (w := w) (base := base) A10 n_tuple n_zip
  have h_product := ok_product (P := l.prog) (w := w) (base := base) A11 h_need_two h_short_quad h_product_by
  have h_plus := ok_plus (P := l.prog) (w := w) (base := base) A12 h_need_two h_is_short h_short_quad h_plus_by
  have h_are_three := ok_are_three (P := l.prog) (w := w) (base := base) A13 h_is_number n_all n_isinstance n_len n_tuple c_SPACE
  have h_shortened := ok_shortened (P := l.prog) (w := w) (base := base) A14 n_tuple n_gcd
  have h_across := ok_across (P := l.prog) (w := w) (base := base) A15 n_sum n_zip
  have h_determinant_of := ok_determinant_of (P := l.prog) (w := w) (base := base) A16
  have h_is_turn_of := ok_is_turn_of (P := l.prog) (w := w) (base := base) A17 h_is_number h_are_three h_shortened h_determinant_of h_across n_all n_isinstance n_len n_tuple c_SPACE
  have h_unshortened := ok_unshortened (P := l.prog) (w := w) (base := base) A18
  have h_turn_by := ok_turn_by (P := l.prog) (w := w) (base := base) A19 h_unshortened h_shortened
  have h_turns_behind := ok_turns_behind (P := l.prog) (w := w) (base := base) A20 h_across h_shortened n_tuple n_zip
  have h_turn_of := ok_turn_of (P := l.prog) (w := w) (base := base) A21 h_need_quad h_turn_by c_NOUGHT
  have h_turns_then := ok_turns_then (P := l.prog) (w := w) (base := base) A22 h_is_turn_of h_turns_behind
  have h_is_prime := ok_is_prime (P := l.prog) (w := w) (base := base) A23 h_is_number n_all n_range c_MOST_PRIME
  have h_need_prime := ok_need_prime (P := l.prog) (w := w) (base := base) A24 h_is_prime
  have h_need_odd := ok_need_odd (P := l.prog) (w := w) (base := base) A25 h_need_prime
  have h_is_table_of := ok_is_table_of (P := l.prog) (w := w) (base := base) A26 h_is_number n_all n_isinstance n_len n_tuple
  have h_marks_by := ok_marks_by (P := l.prog) (w := w) (base := base) A27 n_range
  have h_half_by := ok_half_by (P := l.prog) (w := w) (base := base) A28
  have h_table_by := ok_table_by (P := l.prog) (w := w) (base := base) A29 h_marks_by h_half_by n_tuple
  have h_then_by := ok_then_by (P := l.prog) (w := w) (base := base) A30
  have h_quad_by := ok_quad_by (P := l.prog) (w := w) (base := base) A31 h_marks_by h_half_by n_tuple
  have h_table_of := ok_table_of (P := l.prog) (w := w) (base := base) A32 h_need_odd h_need_quad h_table_by
  have h_tables_then := ok_tables_then (P := l.prog) (w := w) (base := base) A33 h_need_odd h_is_table_of h_then_by
  have h_quad_of_table := ok_quad_of_table (P := l.prog) (w := w) (base := base) A34 h_need_odd h_is_table_of h_quad_by
  have h_Lpick := ok_Lpick (P := l.prog) (w := w) (base := base) A35 h_Ltake n_len
  have h_Lsize := ok_Lsize (P := l.prog) (w := w) (base := base) A36 n_sum
  have h_Lquad := ok_Lquad (P := l.prog) (w := w) (base := base) A37 h_Ltake n_range n_tuple
  have h_Lsome_quad := ok_Lsome_quad (P := l.prog) (w := w) (base := base) A38 h_Lquad
  have h_Lnet_quad := ok_Lnet_quad (P := l.prog) (w := w) (base := base) A39 h_Lsome_quad h_Lsize n_range
  have h_Lleft := ok_Lleft (P := l.prog) (w := w) (base := base) A40 n_int n_range n_tuple
  have h_law := ok_law (P := l.prog) (w := w) (base := base) F41 h_Lbegun h_Lpick h_Lnet_quad h_Lquad h_plus h_Ltake h_table_of h_Lleft h_turn_of h_quad_of_table h_product h_tables_then h_turns_then n_int n_len n_min n_range n_sum n_tuple math
  exact h_law
end Fw

set_option Elab.async false
set_option linter.all false
set_option maxRecDepth 100000
set_option maxHeartbeats 2000000
set_option autoImplicit false
namespace Fs
open PySem

/-! ### what holds of every way, shut off from unfolding -/
structure Cm.AllS {α : Type} (P : α → Prop) (m : Cm α) : Prop where
  h : Cm.All P m
theorem Cm.AllS.mono {α : Type} {P Q : α → Prop} (h : ∀ a, P a → Q a) {m : Cm α} (p : m.AllS P) : m.AllS Q := ⟨Cm.All.mono h p.h⟩
theorem Cm.alls_bind {α β : Type} {P : β → Prop} {f : α → Cm β} {m : Cm α} : (m.bind f).AllS P ↔ m.AllS fun a => (f a).AllS P :=
  ⟨fun h => ⟨Cm.All.mono (fun _ k => ⟨k⟩) (Cm.all_bind.mp h.h)⟩, fun h => ⟨Cm.all_bind.mpr (Cm.All.mono (fun _ k => k.h) h.h)⟩⟩
@[simp] theorem Cm.alls_ret {α : Type} (P : α → Prop) (a : α) : (Cm.ret a).AllS P ↔ P a := ⟨fun h => h.h, fun h => ⟨h⟩⟩

/-! ### bounded numbers -/
class Bd (k : outParam Nat) (i : Int) : Prop where
  lt : i.natAbs < 2 ^ k
theorem Bd.mono {k l : Nat} {i : Int} (h : Bd k i) (hk : k ≤ l) : Bd l i := ⟨Nat.lt_of_lt_of_le h.lt (Nat.pow_le_pow_right (by decide) hk)⟩
theorem two_pow_add_le (k l : Nat) : 2 ^ k + 2 ^ l ≤ 2 ^ (k + l + 1) := by
  have h1 : 2 ^ k ≤ 2 ^ (k + l) := Nat.pow_le_pow_right (by decide) (Nat.le_add_right _ _)
  have h2 : 2 ^ l ≤ 2 ^ (k + l) := Nat.pow_le_pow_right (by decide) (Nat.le_add_left _ _)
  rw [Nat.pow_succ]; omega
instance Bd.add {k l : Nat} {i j : Int} [a : Bd k i] [b : Bd l j] : Bd (k + l + 1) (i + j) := ⟨by
  have := a.lt; have := b.lt; have := two_pow_add_le k l
  have := Int.natAbs_add_le i j
  omega⟩
instance Bd.sub {k l : Nat} {i j : Int} [a : Bd k i] [b : Bd l j] : Bd (k + l + 1) (i - j) := ⟨by
  have := a.lt; have := b.lt; have := two_pow_add_le k l
  have : (i - j).natAbs ≤ i.natAbs + j.natAbs := by omega
  omega⟩
instance Bd.mul {k l : Nat} {i j : Int} [a : Bd k i] [b : Bd l j] : Bd (k + l) (i * j) := ⟨by
  rw [Int.natAbs_mul, Nat.pow_add]
  exact Nat.mul_lt_mul'' a.lt b.lt⟩
instance Bd.neg {k : Nat} {i : Int} [a : Bd k i] : Bd k (-i) := ⟨by rw [Int.natAbs_neg]; exact a.lt⟩
instance Bd.div {k : Nat} {i : Int} {n : Nat} [a : Bd k i] : Bd (k + 1) (i / (OfNat.ofNat n : Int)) := ⟨by
  have := a.lt
  have h : (i / (OfNat.ofNat n : Int)).natAbs ≤ i.natAbs := Int.natAbs_ediv_le_natAbs _ _
  rw [Nat.pow_succ]; omega⟩
instance Bd.lit {n : Nat} : Bd n (no_index (OfNat.ofNat n : Int)) := ⟨by
  show n < _
  exact Nat.lt_two_pow_self⟩
theorem mulOk_bd (k l : Nat) (i j : Int) [a : Bd k i] [b : Bd l j] (h : k + l < 1000000) : mulOk i j = true := by
  unfold mulOk
  rw [decide_eq_true_eq]
  have ha : i.natAbs.log2 ≤ k := by
    by_cases z : i.natAbs = 0
    · rw [z]; simp
    · exact Nat.le_of_lt ((Nat.log2_lt z).mpr a.lt)
  have hb : j.natAbs.log2 ≤ l := by
    by_cases z : j.natAbs = 0
    · rw [z]; simp
    · exact Nat.le_of_lt ((Nat.log2_lt z).mpr b.lt)
  omega
theorem vMul_bd (k l : Nat) (i j : Int) [a : Bd k i] [b : Bd l j] (h : k + l < 1000000) : vMul (.int i) (.int j) = .ret (.int (i * j)) := if_pos (mulOk_bd k l i j h)

theorem vMul_a {k l : Nat} {i j : Int} [a : Bd k i] [b : Bd l j] (h : k + l < 1000000) : vMul (.int i) (.int j) = .ret (.int (i * j)) := if_pos (mulOk_bd k l i j h)

/-! ### running the meanings -/
section
variable {env : Env} {i j : Nat} {f f1 f2 f3 : DE} {fs : DEs} {d e : D} {s1 s2 : DS} {t u : DT}
@[simp] theorem r_fnD (n : Nat) (s : DS) (ds : List D) : fnD n s ds = (s (sEnv n ds)).bind outD := rfl
@[simp] theorem r_sEnv (n : Nat) (ds : List D) : sEnv n ds = ds.map .val ++ List.replicate (n - ds.length) .no := rfl
@[simp] theorem r_var : dVar i env = match env[i]? with | some (.val d) => .ret d | _ => .bad := rfl
@[simp] theorem r_peek : dPeek i env = match env[i]? with | some (.val d) => .ret d | some (.own d) => .ret d | _ => .bad := rfl
@[simp] theorem r_cst : dCst d env = .ret d := rfl
@[simp] theorem r_op (g : D → D → Cm D) : dOp g f1 f2 env = (f1 env).bind fun x => (f2 env).bind fun y => g x y := rfl
@[simp] theorem r_un (g : D → Cm D) : dUn g f1 env = (f1 env).bind g := rfl
@[simp] theorem r_call (g : List D → Cm D) : dCall g fs env = (fs env).bind g := rfl
@[simp] theorem r_nil : dNil env = .ret [] := rfl
@[simp] theorem r_cons : dCons f fs env = (f env).bind fun d => (fs env).bind fun ds => .ret (d :: ds) := rfl
@[simp] theorem r_tru : dTru f env = (f env).bind fun d => match d with | .bool b => .ret b | _ => .bad := rfl
@[simp] theorem r_andT : dAndT t u env = (t env).bind fun b => if b then u env else .ret false := rfl
@[simp] theorem r_orT : dOrT t u env = (t env).bind fun b => if b then .ret true else u env := rfl
@[simp] theorem r_notT : dNotT t env = (t env).bind fun b => .ret (!b) := rfl
@[simp] theorem r_if : dIf t f1 f2 env = (t env).bind fun b => if b then f1 env else f2 env := rfl
@[simp] theorem r_andV : dAndV f1 f2 env = (f1 env).bind fun d => match d with | .bool b => if b then f2 env else .ret (.bool false) | _ => .bad := rfl
@[simp] theorem r_orV : dOrV f1 f2 env = (f1 env).bind fun d => match d with | .bool b => if b then .ret (.bool true) else f2 env | _ => .bad := rfl
@[simp] theorem r_notV : dNotV f env = (f env).bind fun d => match d with | .bool b => .ret (.bool (!b)) | _ => .bad := rfl
@[simp] theorem r_tupF : dTupF fs env = (fs env).bind fun ds => if ds.length ≤ 1000000 ∧ ds.all flatD = true then .ret (.tuple ds) else .bad := rfl
@[simp] theorem r_lstF : dLstF fs env = (fs env).bind fun ds => if ds.length ≤ 1000000 ∧ ds.all flatD = true then .ret (.list ds) else .bad := rfl
@[simp] theorem r_onlyL : dOnlyL f env = (f env).bind fun d => match d with | .list ds => .ret (.list ds) | _ => .bad := by unfold dOnlyL; rfl
@[simp] theorem r_callN (n : Nat) (g : List D → Cm D) : dCallN n g fs env = (fs env).bind fun ds => if ds.length = n then g ds else .bad := rfl
@[simp] theorem r_skip : dSkip env = .ret (.nx env) := rfl
@[simp] theorem r_frz : dFrz i s1 env = s1 (frz1 i env) := rfl
@[simp] theorem r_never : dNever env = .bad := rfl
@[simp] theorem r_ret : dRet f env = (f env).bind fun d => .ret (.rt d) := rfl
@[simp] theorem r_retN : dRetN env = .ret (.rt .none) := rfl
@[simp] theorem r_set : dSet i f env = (f env).bind fun d => .ret (.nx (env.set i (.val d))) := rfl
@[simp] theorem r_setF : dSetF i f env = (f env).bind fun d => .ret (.nx (env.set i (.own d))) := rfl
@[simp] theorem r_ifS : dIfS t s1 s2 env = (t env).bind fun b => if b then s1 env else s2 env := rfl
@[simp] theorem r_drop : dDrop f env = (f env).bind fun _ => .ret (.nx env) := rfl
@[simp] theorem r_cont : dCont env = .ret (.ct env) := rfl
@[simp] theorem r_brk : dBrk env = .ret (.bk env) := rfl
@[simp] theorem r_gN : gN i d env = .ret (env.set i (.val d)) := rfl
@[simp] theorem r_gsNil : gsNil [] env = .ret env := rfl
@[simp] theorem r_gsCons (g : DTg) (gs : DTgs) (ds : List D) : gsCons g gs (d :: ds) env = (g d env).bind fun e1 => gs ds e1 := rfl
@[simp] theorem r_asg (g : DTg) : dAsg f g env = (f env).bind fun d => (g d env).bind fun env' => .ret (.nx env') := rfl
@[simp] theorem r_par : dPar i j f1 f2 env = (f1 env).bind fun d1 => (f2 env).bind fun d2 => .ret (.nx ((env.set i (.val d1)).set j (.val d2))) := rfl
@[simp] theorem r_isi (T : String) : dIsi T f env = (f env).bind (vIsi T) := rfl
@[simp] theorem r_out1 (d : D) : outD (.rt d) = .ret d := rfl
@[simp] theorem r_out2 (e : Env) : outD (.nx e) = .ret .none := rfl
@[simp] theorem r_items : dItems f env = (f env).bind fun d => match d with | .list ds => .ret ds | .tuple ds => .ret ds | _ => .bad := rfl
@[simp] theorem r_yes : dYes env = .ret true := rfl
@[simp] theorem r_lc (fi : DEs) (g : DTg) (vs : List Nat) : dLc fi g t f vs env = (fi env).bind fun items => if items.length < 1000000 then (lcGo g t f items (wipeE env vs)).bind fun ys => .ret (.list ys) else .bad := rfl
@[simp] theorem r_lc0 (g : DTg) : lcGo g t f [] env = .ret [] := rfl
@[simp] theorem r_lc1 (g : DTg) (ds : List D) : lcGo g t f (d :: ds) env = (g d env).bind fun e1 => (t e1).bind fun b => if b = true then (f e1).bind fun y => if flatD y = true then (lcGo g t f ds env).bind fun ys => .ret (y :: ys) else .bad else lcGo g t f ds env := rfl
@[simp] theorem r_wipe0 : wipeE env [] = env := rfl
@[simp] theorem r_wipe1 (v : Nat) (vs : List Nat) : wipeE env (v :: vs) = (wipeE env vs).set v .no := rfl
@[simp] theorem r_for (fi : DEs) (g : DTg) : dFor fi g s1 env = (fi env).bind fun items => forGo g s1 items env := rfl
@[simp] theorem r_for0 (g : DTg) : forGo g s1 [] env = .ret (.nx env) := rfl
@[simp] theorem r_for1 (g : DTg) (ds : List D) : forGo g s1 (d :: ds) env = (g d env).bind fun env1 => (s1 env1).bind fun o => match o with
    | .nx e => forGo g s1 ds e | .ct e => forGo g s1 ds e | .bk e => .ret (.nx e) | .rt d => .ret (.rt d) := rfl
@[simp] theorem r_zip2 : dZip2 fs env = (fs env).bind fun ds => match ds with | [.tuple a, .tuple b] => .ret (zip2 a b) | [.list a, .list b] => .ret (zip2 a b) | _ => .bad := rfl
@[simp] theorem r_zip3 : dZip3 fs env = (fs env).bind fun ds => match ds with | [.tuple a, .tuple b, .tuple c] => .ret (.tuple (zip3 a b c)) | _ => .bad := rfl
@[simp] theorem r_add (i j : Int) : vAdd (.int i) (.int j) = .ret (.int (i + j)) := rfl
@[simp] theorem r_sub (i j : Int) : vSub (.int i) (.int j) = .ret (.int (i - j)) := rfl
@[simp] theorem r_neg (i : Int) : vNeg (.int i) = .ret (.int (-i)) := rfl
@[simp] theorem r_cmp (p : Int → Int → Bool) (i j : Int) : vCmp p (.int i) (.int j) = .ret (.bool (p i j)) := rfl
@[simp] theorem r_div (i j : Int) : vDiv (.int i) (.int j) = if 0 < j ∧ j.natAbs.log2 < 9000 then .ret (.int (i / j)) else .bad := rfl
@[simp] theorem r_mod (i j : Int) : vMod (.int i) (.int j) = if 0 < j then .ret (.int (i % j)) else .bad := rfl
@[simp] theorem r_flat1 (i : Int) : flatD (.int i) = true := rfl
@[simp] theorem r_flat2 (ds : List D) : flatD (.tuple ds) = true := rfl
@[simp] theorem r_flat3 (ds : List D) : flatD (.list ds) = true := rfl
@[simp] theorem r_flat4 (b : Bool) : flatD (.bool b) = true := rfl
@[simp] theorem r_flat5 (b : String) : flatD (.str b) = true := rfl
@[simp] theorem r_flat6 : flatD .none = true := rfl
@[simp] theorem r_len1 (ds : List D) : cLen [.list ds] = .ret (.int ds.length) := rfl
@[simp] theorem r_len2 (ds : List D) : cLen [.tuple ds] = .ret (.int ds.length) := rfl
@[simp] theorem r_abs (i : Int) : cAbs [.int i] = .ret (.int (if i < 0 then -i else i)) := rfl
@[simp] theorem r_int (i : Int) : cInt [.int i] = .ret (.int i) := rfl
@[simp] theorem r_min2 (i j : Int) : cMin2 [.int i, .int j] = .ret (.int (if j < i then j else i)) := rfl
@[simp] theorem r_max2 (i j : Int) : cMax2 [.int i, .int j] = .ret (.int (if j > i then j else i)) := rfl
@[simp] theorem r_gcd (i j : Int) : cGcd [.int i, .int j] = .ret (.int ((Nat.gcd i.natAbs j.natAbs : Nat) : Int)) := rfl
@[simp] theorem r_tuple1 (ds : List D) : cTuple [.list ds] = .ret (.tuple ds) := rfl
@[simp] theorem r_tuple2 (ds : List D) : cTuple [.tuple ds] = .ret (.tuple ds) := rfl
end
@[simp] theorem r_seq (s1 s2 : DS) (env : Env) : dSeq s1 s2 env = (s1 env).bind fun o => match o with | .nx e => s2 e | .rt d => .ret (.rt d) | .bk e => .ret (.bk e) | .ct e => .ret (.ct e) := by
  unfold dSeq; rfl
@[simp] theorem r_gTp (n : Nat) (gs : DTgs) (ds : List D) (env : Env) : gTp n gs (.tuple ds) env = if ds.length = n then gs ds env else .bad := rfl
@[simp] theorem isi_ii (i : Int) : vIsi "int" (.int i) = .ret (.bool true) := by rfl
@[simp] theorem isi_bi (i : Int) : vIsi "bool" (.int i) = .ret (.bool false) := by rfl
@[simp] theorem isi_tt (ds : List D) : vIsi "tuple" (.tuple ds) = .ret (.bool true) := by rfl
@[simp] theorem isi_lt (ds : List D) : vIsi "list" (.tuple ds) = .ret (.bool false) := by rfl
@[simp] theorem isi_dt (ds : List D) : vIsi "dict" (.tuple ds) = .ret (.bool false) := by rfl
@[simp] theorem isi_bt (ds : List D) : vIsi "bool" (.tuple ds) = .ret (.bool false) := by rfl
@[simp] theorem isi_ti (i : Int) : vIsi "tuple" (.int i) = .ret (.bool false) := by rfl
end Fs

set_option Elab.async false
set_option linter.all false
set_option maxRecDepth 100000
set_option maxHeartbeats 2000000
set_option autoImplicit false
namespace Fs
open PySem
@[simp] theorem ret_out (m : Cm D) : (m.bind fun d => Cm.ret (Out.rt d)).bind outD = m := by
  rw [Cm.bind_assoc]
  exact Cm.bind_ret m
@[simp] theorem r_ne_ii (i j : Int) : vNe (.int i) (.int j) = .ret (.bool (!(i == j))) := by
  unfold vNe; rw [if_pos ⟨rfl, rfl, rfl, rfl⟩, PyData.eqv]
@[simp] theorem r_eq_ii (i j : Int) : vEq (.int i) (.int j) = .ret (.bool (i == j)) := by
  unfold vEq; rw [if_pos ⟨rfl, rfl, rfl, rfl⟩, PyData.eqv]
theorem vEq_self {d : D} (h : SeqAt.shaped d = true) (f : flatD d = true) : vEq d d = .ret (.bool true) := by
  unfold vEq; rw [if_pos ⟨h, h, f, f⟩, SeqAt.eqv_refl d (SeqAt.canLay_of_shaped h)]
theorem vNe_self {d : D} (h : SeqAt.shaped d = true) (f : flatD d = true) : vNe d d = .ret (.bool false) := by
  unfold vNe; rw [if_pos ⟨h, h, f, f⟩, SeqAt.eqv_refl d (SeqAt.canLay_of_shaped h)]; rfl
theorem vEq_eqv {d e : D} (h : SeqAt.shaped d = true) (h' : SeqAt.shaped e = true) (f : flatD d = true) (f' : flatD e = true) : vEq d e = .ret (.bool (PyData.eqv d e)) := if_pos ⟨h, h', f, f'⟩
theorem vNe_eqv {d e : D} (h : SeqAt.shaped d = true) (h' : SeqAt.shaped e = true) (f : flatD d = true) (f' : flatD e = true) : vNe d e = .ret (.bool (!PyData.eqv d e)) := if_pos ⟨h, h', f, f'⟩
@[simp] theorem r_ix_t (ds : List D) (i : Int) : vIx (.tuple ds) (.int i) = match L2.atI ds i with | some d => .ret d | none => .bad := rfl
@[simp] theorem r_ix_l (ds : List D) (i : Int) : vIx (.list ds) (.int i) = match L2.atI ds i with | some d => .ret d | none => .bad := rfl
@[simp] theorem all_nil0 : asBools [] = some [] := rfl
@[simp] theorem all_cons0 (b : Bool) (ds : List D) : asBools (.bool b :: ds) = (asBools ds).map (b :: ·) := rfl
@[simp] theorem ints_nil0 : asInts [] = some [] := rfl
@[simp] theorem ints_cons0 (b : Int) (ds : List D) : asInts (.int b :: ds) = (asInts ds).map (b :: ·) := rfl
@[simp] theorem r_all (ds : List D) : cAll [.list ds] = match asBools ds with | some bs => .ret (.bool (bs.all id)) | none => .bad := rfl
@[simp] theorem r_sum (ds : List D) : cSum [.list ds] = match asInts ds with | some bs => .ret (.int bs.sum) | none => .bad := rfl
@[simp] theorem lg2 : Nat.log2 2 = 1 := by rfl
@[simp] theorem lg4 : Nat.log2 4 = 2 := by rfl
abbrev t3 (a b c : Int) : D := .tuple [.int a, .int b, .int c]
abbrev q4 (a b c d : Int) : D := .tuple [.int a, .int b, .int c, .int d]
theorem sh_t3 (a b c : Int) : SeqAt.shaped (t3 a b c) = true := by rfl
theorem sh_q4 (a b c d : Int) : SeqAt.shaped (q4 a b c d) = true := by rfl
abbrev r33 (a b c d e f g h i : Int) : D := .tuple [t3 a b c, t3 d e f, t3 g h i]
theorem sh_r33 (a b c d e f g h i : Int) : SeqAt.shaped (r33 a b c d e f g h i) = true := by rfl
abbrev turnD (s : Int) (a b c d e f g h i : Int) : D := .tuple [.int s, r33 a b c d e f g h i]
theorem sh_turn (s a b c d e f g h i : Int) : SeqAt.shaped (turnD s a b c d e f g h i) = true := by rfl
theorem at_nat (ds : List D) (k : Nat) (d : D) (h : ds[k]? = some d) : L2.atI ds (k : Int) = some d := by
  have hk : k < ds.length := (List.getElem?_eq_some_iff.mp h).1
  unfold L2.atI L2.ixN
  rw [if_pos (by omega), if_pos (by omega)]
  exact h
@[simp] theorem at0 (a : D) (l : List D) : L2.atI (a :: l) 0 = some a := at_nat _ 0 _ rfl
@[simp] theorem at1 (a b : D) (l : List D) : L2.atI (a :: b :: l) 1 = some b := at_nat _ 1 _ rfl
@[simp] theorem at2 (a b c : D) (l : List D) : L2.atI (a :: b :: c :: l) 2 = some c := at_nat _ 2 _ rfl
@[simp] theorem at3 (a b c d : D) (l : List D) : L2.atI (a :: b :: c :: d :: l) 3 = some d := at_nat _ 3 _ rfl
theorem pow_lt_short {i : Int} [b : Bd 600 i] : (if i < 0 then -i else i) < 100000000000000000000000000000000000000000000000000000000000000000000000000000000000000000000000000000000000000000000000000000000000000000000000000000000000000000000000000000000000000000000000000000000 := by
  have h := b.lt
  have h2 : (2 : Nat) ^ 600 < 10 ^ 200 := by decide +kernel
  generalize (2 : Nat) ^ 600 = z at h h2
  split <;> omega
end Fs

set_option linter.all false
set_option autoImplicit false
set_option maxRecDepth 100000
set_option exponentiation.threshold 2000
namespace Fw
open PySem Fs
theorem ev_is_number (i : Int) : m_is_number [.int i] = .ret (.bool true) := by simp [m_is_number, S_is_number]
theorem pow50 : vPow D_FIFTY_DIGITS (.int 4) = .ret (.int (10 ^ 200)) := by
  have h : (0 : Int) ≤ 4 ∧ (Builtin.Int.intBits (10 ^ 50) : Int) * 4 ≤ 2 ^ 27 := by decide +kernel
  exact if_pos (e := .bad) h
theorem ev_is_short (i : Int) [Bd 600 i] : m_is_short [.int i] = .ret (.bool true) := by
  simp [m_is_short, S_is_short, ev_is_number, pow50, pLt, pow_lt_short]
theorem ev_is_quad_of (a b c d : Int) [Bd 600 a] [Bd 600 b] [Bd 600 c] [Bd 600 d] (hb : (b - a) % 2 = 0) (hc : (c - a) % 2 = 0) (hd : (d - a) % 2 = 0) : m_is_quad_of [q4 a b c d] = .ret (.bool true) := by
  simp [m_is_quad_of, S_is_quad_of, ev_is_short, D_PARTS, hb, hc, hd]
theorem ev_need_quad (a b c d : Int) [Bd 600 a] [Bd 600 b] [Bd 600 c] [Bd 600 d] (hb : (b - a) % 2 = 0) (hc : (c - a) % 2 = 0) (hd : (d - a) % 2 = 0) : m_need_quad [q4 a b c d] = .ret .none := by
  simp [m_need_quad, S_need_quad, ev_is_quad_of a b c d hb hc hd]
theorem ev_short_quad (a b c d : Int) [Bd 600 a] [Bd 600 b] [Bd 600 c] [Bd 600 d] : m_short_quad [q4 a b c d] = .ret (q4 a b c d) := by
  simp [m_short_quad, S_short_quad, ev_is_short]
theorem ev_product_by (a b c d e f g h : Int) [Bd 600 a] [Bd 600 b] [Bd 600 c] [Bd 600 d] [Bd 600 e] [Bd 600 f] [Bd 600 g] [Bd 600 h] :
  m_product_by [q4 a b c d, q4 e f g h] =
   .ret (q4 ((a * e - b * f - c * g - d * h) / 2) ((a * f + b * e + c * h - d * g) / 2) ((a * g - b * h + c * e + d * f) / 2) ((a * h + b * g - c * f + d * e) / 2)) := by
  simp [m_product_by, S_product_by, vMul_a]
theorem ev_plus_by (a b c d e f g h m : Int) [Bd 600 e] [Bd 600 f] [Bd 600 g] [Bd 600 h] [Bd 600 m] :
  m_plus_by [q4 a b c d, q4 e f g h, .int m] = .ret (q4 (a + m * e) (b + m * f) (c + m * g) (d + m * h)) := by
  simp [m_plus_by, S_plus_by, vMul_a, zip2]
theorem ev_are_three (a b c : Int) : m_are_three [t3 a b c] = .ret (.bool true) := by
  simp [m_are_three, S_are_three, ev_is_number, D_SPACE]
theorem ev_across (a b c d e f : Int) [Bd 5000 a] [Bd 5000 b] [Bd 5000 c] [Bd 5000 d] [Bd 5000 e] [Bd 5000 f] : m_across [t3 a b c, t3 d e f] = .ret (.int (a * d + b * e + c * f)) := by
  simp [m_across, S_across, vMul_a, zip2]
  omega
theorem ev_det (a b c d e f g h i : Int) [Bd 5000 a] [Bd 5000 b] [Bd 5000 c] [Bd 5000 d] [Bd 5000 e] [Bd 5000 f] [Bd 5000 g] [Bd 5000 h] [Bd 5000 i] :
   m_determinant_of [r33 a b c d e f g h i] = .ret (.int (a * (e * i - f * h) - b * (d * i - f * g) + c * (d * h - e * g))) := by
  simp [m_determinant_of, S_determinant_of, vMul_a]
def gcd9 (s a b c d e f g h i : Int) : Nat :=
  (((((((((s.natAbs.gcd a.natAbs).gcd b.natAbs).gcd c.natAbs).gcd d.natAbs).gcd e.natAbs).gcd f.natAbs).gcd g.natAbs).gcd h.natAbs).gcd i.natAbs)
theorem ev_shortened (s a b c d e f g h i : Int) (hp : 0 < gcd9 s a b c d e f g h i) (hl : (gcd9 s a b c d e f g h i).log2 < 9000) :
   m_shortened [.int s, r33 a b c d e f g h i] = .ret (turnD (s / gcd9 s a b c d e f g h i) (a / gcd9 s a b c d e f g h i) (b / gcd9 s a b c d e f g h i) (c / gcd9 s a b c d e f g h i) (d / gcd9 s a b c d e f g h i) (e / gcd9 s a b c d e f g h i) (f / gcd9 s a b c d e f g h i) (g / gcd9 s a b c d e f g h i) (h / gcd9 s a b c d e f g h i) (i / gcd9 s a b c d e f g h i)) := by
  generalize hG : gcd9 s a b c d e f g h i = G at hp hl ⊢
  have hG' : (((((((((s.natAbs.gcd a.natAbs).gcd b.natAbs).gcd c.natAbs).gcd d.natAbs).gcd e.natAbs).gcd f.natAbs).gcd g.natAbs).gcd h.natAbs).gcd i.natAbs) = G := hG
  simp [m_shortened, S_shortened, hG', hp, hl]
theorem ev_unshortened (a b c d : Int) [Bd 600 a] [Bd 600 b] [Bd 600 c] [Bd 600 d] : m_unshortened [q4 a b c d] = .ret (turnD (a * a + b * b + c * c + d * d)
    (a * a + b * b - c * c - d * d) (2 * (b * c - a * d)) (2 * (b * d + a * c)) (2 * (b * c + a * d)) (a * a - b * b + c * c - d * d) (2 * (c * d - a * b)) (2 * (b * d - a * c)) (2 * (c * d + a * b)) (a * a - b * b - c * c + d * d)) := by
  simp [m_unshortened, S_unshortened, vMul_a]
theorem ev_is_turn_of (s a b c d e f g h i : Int) [Bd 5000 s] [Bd 5000 a] [Bd 5000 b] [Bd 5000 c] [Bd 5000 d] [Bd 5000 e] [Bd 5000 f] [Bd 5000 g] [Bd 5000 h] [Bd 5000 i]
   (hs : ¬ s < 1) (hg : gcd9 s a b c d e f g h i = 1) (hd : a * (e * i - f * h) - b * (d * i - f * g) + c * (d * h - e * g) = s * s * s)
   (h11 : a * a + b * b + c * c = s * s) (h22 : d * d + e * e + f * f = s * s) (h33 : g * g + h * h + i * i = s * s)
   (h12 : a * d + b * e + c * f = 0) (h13 : a * g + b * h + c * i = 0) (h23 : d * g + e * h + f * i = 0)
   (h21 : d * a + e * b + f * c = 0) (h31 : g * a + h * b + i * c = 0) (h32 : g * d + h * e + i * f = 0) : m_is_turn_of [turnD s a b c d e f g h i] = .ret (.bool true) := by
  have sh := ev_shortened s a b c d e f g h i (by rw [hg]; decide) (by rw [hg]; decide)
  rw [hg] at sh
  have e1 : ((1 : Nat) : Int) = 1 := rfl
  simp only [e1, Int.ediv_one] at sh
  have ne := vNe_self (sh_turn s a b c d e f g h i) rfl
  simp [m_is_turn_of, S_is_turn_of, ev_is_number, pLt, hs, D_SPACE, ev_are_three, sh, ne, ev_det, hd, ev_across, vMul_a, h11, h22, h33, h12, h13, h23, h21, h31, h32]
theorem ev_turn_by (a b c d : Int) [Bd 600 a] [Bd 600 b] [Bd 600 c] [Bd 600 d] : m_turn_by [q4 a b c d] = m_shortened [.int (a * a + b * b + c * c + d * d), r33
    (a * a + b * b - c * c - d * d) (2 * (b * c - a * d)) (2 * (b * d + a * c)) (2 * (b * c + a * d)) (a * a - b * b + c * c - d * d) (2 * (c * d - a * b)) (2 * (b * d - a * c)) (2 * (c * d + a * b)) (a * a - b * b - c * c + d * d)] := by
  simp [m_turn_by, S_turn_by, ev_unshortened]
theorem ev_turns_behind (s a b c d e f g h i s' a' b' c' d' e' f' g' h' i' : Int) [Bd 5000 s] [Bd 5000 a] [Bd 5000 b] [Bd 5000 c] [Bd 5000 d] [Bd 5000 e] [Bd 5000 f] [Bd 5000 g] [Bd 5000 h] [Bd 5000 i]
   [Bd 5000 s'] [Bd 5000 a'] [Bd 5000 b'] [Bd 5000 c'] [Bd 5000 d'] [Bd 5000 e'] [Bd 5000 f'] [Bd 5000 g'] [Bd 5000 h'] [Bd 5000 i'] :
   m_turns_behind [turnD s a b c d e f g h i, turnD s' a' b' c' d' e' f' g' h' i'] = m_shortened [.int (s * s'), r33
     (a' * a + b' * d + c' * g) (a' * b + b' * e + c' * h) (a' * c + b' * f + c' * i)
     (d' * a + e' * d + f' * g) (d' * b + e' * e + f' * h) (d' * c + e' * f + f' * i)
     (g' * a + h' * d + i' * g) (g' * b + h' * e + i' * h) (g' * c + h' * f + i' * i)] := by
  simp [m_turns_behind, S_turns_behind, ev_across, zip3, vMul_a]
theorem ev_turn_of (a b c d : Int) [Bd 600 a] [Bd 600 b] [Bd 600 c] [Bd 600 d] (hb : (b - a) % 2 = 0) (hc : (c - a) % 2 = 0) (hd : (d - a) % 2 = 0) (h0 : (a == 0 && (b == 0 && (c == 0 && d == 0))) = false) :
   m_turn_of [q4 a b c d] = m_turn_by [q4 a b c d] := by
  have e : vEq (q4 a b c d) D_NOUGHT = .ret (.bool false) := by
    unfold D_NOUGHT
    rw [vEq_eqv (sh_q4 _ _ _ _) rfl rfl rfl]
    simp only [PyData.eqv, PyData.eqvAll, Bool.and_true, h0]
  simp [m_turn_of, S_turn_of, ev_need_quad a b c d hb hc hd, e]
theorem ev_turns_then (x y : D) (hx : m_is_turn_of [x] = .ret (.bool true)) (hy : m_is_turn_of [y] = .ret (.bool true)) : m_turns_then [x, y] = m_turns_behind [x, y] := by
  simp [m_turns_then, S_turns_then, hx, hy]
theorem ev_need_two (a b c d e f g h : Int) [Bd 600 a] [Bd 600 b] [Bd 600 c] [Bd 600 d] [Bd 600 e] [Bd 600 f] [Bd 600 g] [Bd 600 h] (hb : (b - a) % 2 = 0) (hc : (c - a) % 2 = 0) (hd : (d - a) % 2 = 0)
   (hf : (f - e) % 2 = 0) (hg : (g - e) % 2 = 0) (hh : (h - e) % 2 = 0) : m_need_two [q4 a b c d, q4 e f g h] = .ret .none := by
  simp [m_need_two, S_need_two, ev_is_quad_of a b c d hb hc hd, ev_is_quad_of e f g h hf hg hh]
theorem ev_product (a b c d e f g h : Int) [Bd 600 a] [Bd 600 b] [Bd 600 c] [Bd 600 d] [Bd 600 e] [Bd 600 f] [Bd 600 g] [Bd 600 h] (hb : (b - a) % 2 = 0) (hc : (c - a) % 2 = 0) (hd : (d - a) % 2 = 0)
   (hf : (f - e) % 2 = 0) (hg : (g - e) % 2 = 0) (hh : (h - e) % 2 = 0) [Bd 600 ((a * e - b * f - c * g - d * h) / 2)] [Bd 600 ((a * f + b * e + c * h - d * g) / 2)] [Bd 600 ((a * g - b * h + c * e + d * f) / 2)] [Bd 600 ((a * h + b * g - c * f + d * e) / 2)] : m_product [q4 a b c d, q4 e f g h] =
   .ret (q4 ((a * e - b * f - c * g - d * h) / 2) ((a * f + b * e + c * h - d * g) / 2) ((a * g - b * h + c * e + d * f) / 2) ((a * h + b * g - c * f + d * e) / 2)) := by
  simp [m_product, S_product, ev_need_two a b c d e f g h hb hc hd hf hg hh, ev_product_by, ev_short_quad]
theorem ev_plus (a b c d e f g h m : Int) [Bd 600 a] [Bd 600 b] [Bd 600 c] [Bd 600 d] [Bd 600 e] [Bd 600 f] [Bd 600 g] [Bd 600 h] [Bd 600 m] (hb : (b - a) % 2 = 0) (hc : (c - a) % 2 = 0) (hd : (d - a) % 2 = 0)
   (hf : (f - e) % 2 = 0) (hg : (g - e) % 2 = 0) (hh : (h - e) % 2 = 0) [Bd 600 (a + m * e)] [Bd 600 (b + m * f)] [Bd 600 (c + m * g)] [Bd 600 (d + m * h)] : m_plus [q4 a b c d, q4 e f g h, .int m] =
   .ret (q4 (a + m * e) (b + m * f) (c + m * g) (d + m * h)) := by
  simp [m_plus, S_plus, ev_need_two a b c d e f g h hb hc hd hf hg hh, ev_plus_by, ev_is_short, ev_short_quad]
-- primes, tables
theorem five {q : Int} (h : q = 3 ∨ q = 5 ∨ q = 7 ∨ q = 11 ∨ q = 13) : m_need_odd [.int q] = .ret .none := by
  rcases h with rfl | rfl | rfl | rfl | rfl <;> rfl
theorem marks3 : m_marks_by [.int 3] = .ret (.tuple [.int 1, .int 1]) := by rfl
theorem marks5 : m_marks_by [.int 5] = .ret (.tuple [.int 0, .int 2]) := by rfl
theorem marks7 : m_marks_by [.int 7] = .ret (.tuple [.int 2, .int 3]) := by rfl
theorem marks11 : m_marks_by [.int 11] = .ret (.tuple [.int 1, .int 3]) := by rfl
theorem marks13 : m_marks_by [.int 13] = .ret (.tuple [.int 0, .int 5]) := by rfl
end Fw

set_option autoImplicit false
set_option linter.all false
set_option maxRecDepth 100000
set_option exponentiation.threshold 2000
namespace Fw
open PySem Fs
-- gcds
theorem gcd9_mul (m s a b c d e f g h i : Int) : gcd9 (m * s) (m * a) (m * b) (m * c) (m * d) (m * e) (m * f) (m * g) (m * h) (m * i) = m.natAbs * gcd9 s a b c d e f g h i := by
  unfold gcd9
  simp only [Int.natAbs_mul, Nat.gcd_mul_left]
theorem gcd9_dvd (s a b c d e f g h i : Int) : ((gcd9 s a b c d e f g h i : Nat) : Int) ∣ s ∧ ((gcd9 s a b c d e f g h i : Nat) : Int) ∣ a ∧ ((gcd9 s a b c d e f g h i : Nat) : Int) ∣ b ∧ ((gcd9 s a b c d e f g h i : Nat) : Int) ∣ c ∧
    ((gcd9 s a b c d e f g h i : Nat) : Int) ∣ d ∧ ((gcd9 s a b c d e f g h i : Nat) : Int) ∣ e ∧ ((gcd9 s a b c d e f g h i : Nat) : Int) ∣ f ∧ ((gcd9 s a b c d e f g h i : Nat) : Int) ∣ g ∧ ((gcd9 s a b c d e f g h i : Nat) : Int) ∣ h ∧ ((gcd9 s a b c d e f g h i : Nat) : Int) ∣ i := by
  unfold gcd9
  simp only [Int.ofNat_dvd_left]
  refine ⟨?_, ?_, ?_, ?_, ?_, ?_, ?_, ?_, ?_, ?_⟩
  all_goals
    first
    | exact Nat.gcd_dvd_right _ _
    | exact Nat.dvd_trans (Nat.gcd_dvd_left _ _) (Nat.gcd_dvd_right _ _)
    | exact Nat.dvd_trans (Nat.gcd_dvd_left _ _) (Nat.dvd_trans (Nat.gcd_dvd_left _ _) (Nat.gcd_dvd_right _ _))
    | (repeat (first | exact Nat.gcd_dvd_right _ _ | exact Nat.gcd_dvd_left _ _ | refine Nat.dvd_trans (Nat.gcd_dvd_left _ _) ?_))
theorem gcd9_pos {s a b c d e f g h i : Int} (hs : 0 < s) : 0 < gcd9 s a b c d e f g h i := by
  refine Nat.pos_of_ne_zero fun z => ?_
  have := (gcd9_dvd s a b c d e f g h i).1
  rw [z] at this
  have := Int.zero_dvd.mp this
  omega
theorem gcd9_le {s a b c d e f g h i : Int} (hs : 0 < s) : ((gcd9 s a b c d e f g h i : Nat) : Int) ≤ s := Int.le_of_dvd hs (gcd9_dvd s a b c d e f g h i).1
theorem gcd9_log {s a b c d e f g h i : Int} (hs : 0 < s) [hb : Bd 5000 s] : (gcd9 s a b c d e f g h i).log2 < 9000 := by
  have h1 := gcd9_le (s := s) (a := a) (b := b) (c := c) (d := d) (e := e) (f := f) (g := g) (h := h) (i := i) hs
  have h2 := gcd9_pos (s := s) (a := a) (b := b) (c := c) (d := d) (e := e) (f := f) (g := g) (h := h) (i := i) hs
  have h3 := hb.lt
  have h4 : gcd9 s a b c d e f g h i < 2 ^ 5000 := by omega
  have := (Nat.log2_lt (Nat.ne_of_gt h2)).mpr h4
  omega
/-- what is handed back by shortened -/
def nrm (s a b c d e f g h i : Int) : D := turnD (s / gcd9 s a b c d e f g h i) (a / gcd9 s a b c d e f g h i) (b / gcd9 s a b c d e f g h i) (c / gcd9 s a b c d e f g h i) (d / gcd9 s a b c d e f g h i) (e / gcd9 s a b c d e f g h i) (f / gcd9 s a b c d e f g h i) (g / gcd9 s a b c d e f g h i) (h / gcd9 s a b c d e f g h i) (i / gcd9 s a b c d e f g h i)
theorem nrm_mul (m s a b c d e f g h i : Int) (hm : 0 < m) : nrm (m * s) (m * a) (m * b) (m * c) (m * d) (m * e) (m * f) (m * g) (m * h) (m * i) = nrm s a b c d e f g h i := by
  unfold nrm
  rw [gcd9_mul]
  have e : ((m.natAbs * gcd9 s a b c d e f g h i : Nat) : Int) = m * (gcd9 s a b c d e f g h i : Int) := by
    rw [Int.natCast_mul]; congr 1; omega
  rw [e]
  simp only [Int.mul_ediv_mul_of_pos _ _ hm]
theorem nrm_eq {m n s a b c d e f g h i s' a' b' c' d' e' f' g' h' i' : Int} (hm : 0 < m) (hn : 0 < n) (h0 : m * s = n * s') (h1 : m * a = n * a') (h2 : m * b = n * b') (h3 : m * c = n * c') (h4 : m * d = n * d') (h5 : m * e = n * e') (h6 : m * f = n * f') (h7 : m * g = n * g') (h8 : m * h = n * h') (h9 : m * i = n * i') :
    nrm s a b c d e f g h i = nrm s' a' b' c' d' e' f' g' h' i' := by
  rw [← nrm_mul m s a b c d e f g h i hm, ← nrm_mul n s' a' b' c' d' e' f' g' h' i' hn, h0, h1, h2, h3, h4, h5, h6, h7, h8, h9]
end Fw

set_option autoImplicit false
set_option linter.all false
set_option maxRecDepth 100000
set_option exponentiation.threshold 2000
namespace Fw
open PySem Fs
theorem bd_ediv {k : Nat} {i : Int} (j : Int) [a : Bd k i] : Bd k (i / j) := ⟨by
  have := a.lt
  have h : (i / j).natAbs ≤ i.natAbs := Int.natAbs_ediv_le_natAbs _ _
  omega⟩
theorem red {G x : Int} (hG : 0 < G) (h : G ∣ x) : x = G * (x / G) := (Int.mul_ediv_cancel' h).symm
theorem sc2 (M a b c d e f s : Int) (h : M * a * (M * d) + M * b * (M * e) + M * c * (M * f) = M * s * (M * s)) : M * M * (a * d + b * e + c * f) = M * M * (s * s) := by grind
theorem sc0 (M a b c d e f : Int) (h : M * a * (M * d) + M * b * (M * e) + M * c * (M * f) = 0) : M * M * (a * d + b * e + c * f) = M * M * 0 := by grind
theorem sc3 (M a b c d e f g h i s : Int) (hd : M * a * (M * e * (M * i) - M * f * (M * h)) - M * b * (M * d * (M * i) - M * f * (M * g)) + M * c * (M * d * (M * h) - M * e * (M * g)) = M * s * (M * s) * (M * s)) :
    M * M * M * (a * (e * i - f * h) - b * (d * i - f * g) + c * (d * h - e * g)) = M * M * M * (s * s * s) := by grind
theorem sc0' (M a b c d e f : Int) (h : M * a * (M * d) + M * b * (M * e) + M * c * (M * f) = 0) : M * M * (d * a + e * b + f * c) = M * M * 0 := by grind
theorem is_turn_nrm (s a b c d e f g h i : Int) [Bd 5000 s] [Bd 5000 a] [Bd 5000 b] [Bd 5000 c] [Bd 5000 d] [Bd 5000 e] [Bd 5000 f] [Bd 5000 g] [Bd 5000 h] [Bd 5000 i]
   (hs : 0 < s) (hd : a * (e * i - f * h) - b * (d * i - f * g) + c * (d * h - e * g) = s * s * s)
   (h11 : a * a + b * b + c * c = s * s) (h22 : d * d + e * e + f * f = s * s) (h33 : g * g + h * h + i * i = s * s)
   (h12 : a * d + b * e + c * f = 0) (h13 : a * g + b * h + c * i = 0) (h23 : d * g + e * h + f * i = 0) : m_is_turn_of [nrm s a b c d e f g h i] = .ret (.bool true) := by
  obtain ⟨d0, d1, d2, d3, d4, d5, d6, d7, d8, d9⟩ := gcd9_dvd s a b c d e f g h i
  have hp := gcd9_pos (s := s) (a := a) (b := b) (c := c) (d := d) (e := e) (f := f) (g := g) (h := h) (i := i) hs
  have hm := gcd9_mul (gcd9 s a b c d e f g h i : Int) (s / gcd9 s a b c d e f g h i) (a / gcd9 s a b c d e f g h i) (b / gcd9 s a b c d e f g h i) (c / gcd9 s a b c d e f g h i) (d / gcd9 s a b c d e f g h i) (e / gcd9 s a b c d e f g h i) (f / gcd9 s a b c d e f g h i) (g / gcd9 s a b c d e f g h i) (h / gcd9 s a b c d e f g h i) (i / gcd9 s a b c d e f g h i)
  rw [Int.mul_ediv_cancel' d0, Int.mul_ediv_cancel' d1, Int.mul_ediv_cancel' d2, Int.mul_ediv_cancel' d3, Int.mul_ediv_cancel' d4, Int.mul_ediv_cancel' d5, Int.mul_ediv_cancel' d6, Int.mul_ediv_cancel' d7, Int.mul_ediv_cancel' d8, Int.mul_ediv_cancel' d9] at hm
  unfold nrm
  generalize gcd9 s a b c d e f g h i = N at *
  have hN : (0 : Int) < N := by omega
  have hg1 : gcd9 (s / ↑N) (a / ↑N) (b / ↑N) (c / ↑N) (d / ↑N) (e / ↑N) (f / ↑N) (g / ↑N) (h / ↑N) (i / ↑N) = 1 := by
    rw [Int.natAbs_natCast] at hm
    have : N * 1 = N * gcd9 (s / ↑N) (a / ↑N) (b / ↑N) (c / ↑N) (d / ↑N) (e / ↑N) (f / ↑N) (g / ↑N) (h / ↑N) (i / ↑N) := by rw [Nat.mul_one]; exact hm
    exact (Nat.eq_of_mul_eq_mul_left hp this).symm
  haveI := bd_ediv (i := s) (N : Int)
  haveI := bd_ediv (i := a) (N : Int)
  haveI := bd_ediv (i := b) (N : Int)
  haveI := bd_ediv (i := c) (N : Int)
  haveI := bd_ediv (i := d) (N : Int)
  haveI := bd_ediv (i := e) (N : Int)
  haveI := bd_ediv (i := f) (N : Int)
  haveI := bd_ediv (i := g) (N : Int)
  haveI := bd_ediv (i := h) (N : Int)
  haveI := bd_ediv (i := i) (N : Int)
  have e0 := red hN d0
  have e1 := red hN d1
  have e2 := red hN d2
  have e3 := red hN d3
  have e4 := red hN d4
  have e5 := red hN d5
  have e6 := red hN d6
  have e7 := red hN d7
  have e8 := red hN d8
  have e9 := red hN d9
  generalize (N : Int) = M at *
  generalize s / M = s' at *
  generalize a / M = a' at *
  generalize b / M = b' at *
  generalize c / M = c' at *
  generalize d / M = d' at *
  generalize e / M = e' at *
  generalize f / M = f' at *
  generalize g / M = g' at *
  generalize h / M = h' at *
  generalize i / M = i' at *
  subst e0 e1 e2 e3 e4 e5 e6 e7 e8 e9
  have hM2 : M * M ≠ 0 := by
    have := Int.mul_pos hN hN
    omega
  have hM3 : M * M * M ≠ 0 := by
    have := Int.mul_pos (Int.mul_pos hN hN) hN
    omega
  have c2 : ∀ {x y : Int}, M * M * x = M * M * y → x = y := fun h => Int.eq_of_mul_eq_mul_left hM2 h
  refine ev_is_turn_of s' a' b' c' d' e' f' g' h' i' ?_ hg1 (Int.eq_of_mul_eq_mul_left hM3 ?_) (c2 ?_) (c2 ?_) (c2 ?_) (c2 ?_) (c2 ?_) (c2 ?_) (c2 ?_) (c2 ?_) (c2 ?_)
  · intro z
    have : M * s' ≤ 0 := Int.mul_nonpos_of_nonneg_of_nonpos (by omega) (by omega)
    omega
  · exact sc3 _ _ _ _ _ _ _ _ _ _ _ hd
  · exact sc2 _ _ _ _ _ _ _ _ h11
  · exact sc2 _ _ _ _ _ _ _ _ h22
  · exact sc2 _ _ _ _ _ _ _ _ h33
  · exact sc0 _ _ _ _ _ _ _ h12
  · exact sc0 _ _ _ _ _ _ _ h13
  · exact sc0 _ _ _ _ _ _ _ h23
  · exact sc0' _ _ _ _ _ _ _ h12
  · exact sc0' _ _ _ _ _ _ _ h13
  · exact sc0' _ _ _ _ _ _ _ h23
end Fw

set_option autoImplicit false
set_option linter.all false
set_option maxRecDepth 100000
set_option exponentiation.threshold 2000
namespace Fw
open PySem Fs
def sz (a b c d : Int) : Int := a * a + b * b + c * c + d * d
/-- the turn of a quad -/
def T (a b c d : Int) : D := nrm (a * a + b * b + c * c + d * d)
    (a * a + b * b - c * c - d * d) (2 * (b * c - a * d)) (2 * (b * d + a * c)) (2 * (b * c + a * d)) (a * a - b * b + c * c - d * d) (2 * (c * d - a * b)) (2 * (b * d - a * c)) (2 * (c * d + a * b)) (a * a - b * b - c * c + d * d)
structure Qd (a b c d : Int) : Prop where
  ba : Bd 600 a
  bb : Bd 600 b
  bc : Bd 600 c
  bd : Bd 600 d
  hb : (b - a) % 2 = 0
  hc : (c - a) % 2 = 0
  hd : (d - a) % 2 = 0
theorem sq_nonneg (a : Int) : 0 ≤ a * a := by
  rcases Int.le_total 0 a with h | h
  · exact Int.mul_nonneg h h
  · exact Int.mul_nonneg_of_nonpos_of_nonpos h h
theorem sz_pos {a b c d : Int} (h0 : (a == 0 && (b == 0 && (c == 0 && d == 0))) = false) : 0 < a * a + b * b + c * c + d * d := by
  have ha := sq_nonneg a
  have hb := sq_nonneg b
  have hc := sq_nonneg c
  have hd := sq_nonneg d
  have z : ∀ x : Int, x * x = 0 → x = 0 := fun x hx => by
    rcases Int.mul_eq_zero.mp hx with h | h <;> exact h
  refine Int.not_le.mp fun e => ?_
  have h1 := z a (by omega)
  have h2 := z b (by omega)
  have h3 := z c (by omega)
  have h4 := z d (by omega)
  subst h1 h2 h3 h4
  exact absurd h0 (by decide)
theorem turn_of_T {a b c d : Int} (Q : Qd a b c d) (h0 : (a == 0 && (b == 0 && (c == 0 && d == 0))) = false) : m_turn_of [q4 a b c d] = .ret (T a b c d) := by
  haveI := Q.ba
  haveI := Q.bb
  haveI := Q.bc
  haveI := Q.bd
  rw [ev_turn_of a b c d Q.hb Q.hc Q.hd h0, ev_turn_by]
  have hs := sz_pos h0
  haveI : Bd 5000 (a * a + b * b + c * c + d * d) := Bd.mono inferInstance (by decide)
  rw [ev_shortened _ _ _ _ _ _ _ _ _ _ (gcd9_pos hs) (gcd9_log hs)]
  rfl
theorem isT {a b c d : Int} (Q : Qd a b c d) (h0 : (a == 0 && (b == 0 && (c == 0 && d == 0))) = false) : m_is_turn_of [T a b c d] = .ret (.bool true) := by
  have hs := sz_pos h0
  haveI := Q.ba
  haveI := Q.bb
  haveI := Q.bc
  haveI := Q.bd
  haveI : Bd 5000 (a * a + b * b + c * c + d * d) := Bd.mono inferInstance (by decide)
  haveI : Bd 5000 (a * a + b * b - c * c - d * d) := Bd.mono inferInstance (by decide)
  haveI : Bd 5000 (a * a - b * b + c * c - d * d) := Bd.mono inferInstance (by decide)
  haveI : Bd 5000 (a * a - b * b - c * c + d * d) := Bd.mono inferInstance (by decide)
  haveI : Bd 5000 (2 * (b * c - a * d)) := Bd.mono inferInstance (by decide)
  haveI : Bd 5000 (2 * (b * d + a * c)) := Bd.mono inferInstance (by decide)
  haveI : Bd 5000 (2 * (b * c + a * d)) := Bd.mono inferInstance (by decide)
  haveI : Bd 5000 (2 * (c * d - a * b)) := Bd.mono inferInstance (by decide)
  haveI : Bd 5000 (2 * (b * d - a * c)) := Bd.mono inferInstance (by decide)
  haveI : Bd 5000 (2 * (c * d + a * b)) := Bd.mono inferInstance (by decide)
  clear Q h0
  unfold T
  refine is_turn_nrm _ _ _ _ _ _ _ _ _ _ hs ?_ ?_ ?_ ?_ ?_ ?_ ?_ <;> clear hs this <;> grind
-- the turn's parts, bounded
theorem bdT {a b c d : Int} (Q : Qd a b c d) : ∃ s r1 r2 r3 r4 r5 r6 r7 r8 r9 G : Int, T a b c d = turnD s r1 r2 r3 r4 r5 r6 r7 r8 r9 ∧ ((a == 0 && (b == 0 && (c == 0 && d == 0))) = false → 0 < G) ∧
    Bd 5000 s ∧ Bd 5000 r1 ∧ Bd 5000 r2 ∧ Bd 5000 r3 ∧ Bd 5000 r4 ∧ Bd 5000 r5 ∧ Bd 5000 r6 ∧ Bd 5000 r7 ∧ Bd 5000 r8 ∧ Bd 5000 r9 ∧
    a * a + b * b + c * c + d * d = G * s ∧ a * a + b * b - c * c - d * d = G * r1 ∧ 2 * (b * c - a * d) = G * r2 ∧ 2 * (b * d + a * c) = G * r3 ∧ 2 * (b * c + a * d) = G * r4 ∧ a * a - b * b + c * c - d * d = G * r5 ∧ 2 * (c * d - a * b) = G * r6 ∧
    2 * (b * d - a * c) = G * r7 ∧ 2 * (c * d + a * b) = G * r8 ∧ a * a - b * b - c * c + d * d = G * r9 := by
  haveI := Q.ba
  haveI := Q.bb
  haveI := Q.bc
  haveI := Q.bd
  haveI : Bd 5000 (a * a + b * b + c * c + d * d) := Bd.mono inferInstance (by decide)
  haveI : Bd 5000 (a * a + b * b - c * c - d * d) := Bd.mono inferInstance (by decide)
  haveI : Bd 5000 (a * a - b * b + c * c - d * d) := Bd.mono inferInstance (by decide)
  haveI : Bd 5000 (a * a - b * b - c * c + d * d) := Bd.mono inferInstance (by decide)
  haveI : Bd 5000 (2 * (b * c - a * d)) := Bd.mono inferInstance (by decide)
  haveI : Bd 5000 (2 * (b * d + a * c)) := Bd.mono inferInstance (by decide)
  haveI : Bd 5000 (2 * (b * c + a * d)) := Bd.mono inferInstance (by decide)
  haveI : Bd 5000 (2 * (c * d - a * b)) := Bd.mono inferInstance (by decide)
  haveI : Bd 5000 (2 * (b * d - a * c)) := Bd.mono inferInstance (by decide)
  haveI : Bd 5000 (2 * (c * d + a * b)) := Bd.mono inferInstance (by decide)
  obtain ⟨d0, d1, d2, d3, d4, d5, d6, d7, d8, d9⟩ := gcd9_dvd (a * a + b * b + c * c + d * d)
    (a * a + b * b - c * c - d * d) (2 * (b * c - a * d)) (2 * (b * d + a * c)) (2 * (b * c + a * d)) (a * a - b * b + c * c - d * d) (2 * (c * d - a * b)) (2 * (b * d - a * c)) (2 * (c * d + a * b)) (a * a - b * b - c * c + d * d)
  refine ⟨_, _, _, _, _, _, _, _, _, _, _, rfl, fun h0 => ?_, bd_ediv _, bd_ediv _, bd_ediv _, bd_ediv _, bd_ediv _, bd_ediv _, bd_ediv _, bd_ediv _, bd_ediv _, bd_ediv _,
    (Int.mul_ediv_cancel' d0).symm, (Int.mul_ediv_cancel' d1).symm, (Int.mul_ediv_cancel' d2).symm, (Int.mul_ediv_cancel' d3).symm, (Int.mul_ediv_cancel' d4).symm, (Int.mul_ediv_cancel' d5).symm, (Int.mul_ediv_cancel' d6).symm, (Int.mul_ediv_cancel' d7).symm, (Int.mul_ediv_cancel' d8).symm, (Int.mul_ediv_cancel' d9).symm⟩
  have := gcd9_pos (s := a * a + b * b + c * c + d * d) (a := a * a + b * b - c * c - d * d) (b := 2 * (b * c - a * d)) (c := 2 * (b * d + a * c)) (d := 2 * (b * c + a * d)) (e := a * a - b * b + c * c - d * d) (f := 2 * (c * d - a * b)) (g := 2 * (b * d - a * c)) (h := 2 * (c * d + a * b)) (i := a * a - b * b - c * c + d * d) (sz_pos h0)
  omega
end Fw

set_option autoImplicit false
set_option linter.all false
set_option maxRecDepth 100000
set_option exponentiation.threshold 2000
namespace Fw
open PySem Fs
theorem par {a b : Int} (h : (b - a) % 2 = 0) : ∃ k, b = a + 2 * k := ⟨(b - a) / 2, by omega⟩
/-- a product: its parts -/
structure Pr (a b c d e f g h p q r s : Int) : Prop where
  h1 : a * e - b * f - c * g - d * h = 2 * p
  h2 : a * f + b * e + c * h - d * g = 2 * q
  h3 : a * g - b * h + c * e + d * f = 2 * r
  h4 : a * h + b * g - c * f + d * e = 2 * s
theorem prodQ {a b c d e f g h : Int} [Bd 50 a] [Bd 50 b] [Bd 50 c] [Bd 50 d] [Bd 50 e] [Bd 50 f] [Bd 50 g] [Bd 50 h] (hb : (b - a) % 2 = 0) (hc : (c - a) % 2 = 0) (hd : (d - a) % 2 = 0)
   (hf : (f - e) % 2 = 0) (hg : (g - e) % 2 = 0) (hh : (h - e) % 2 = 0) : ∃ p q r s, Pr a b c d e f g h p q r s ∧ Qd p q r s ∧ m_product [q4 a b c d, q4 e f g h] = .ret (q4 p q r s) := by
  have ev : ∀ (p q r s : Int), Pr a b c d e f g h p q r s → Bd 600 p ∧ Bd 600 q ∧ Bd 600 r ∧ Bd 600 s ∧ m_product [q4 a b c d, q4 e f g h] = .ret (q4 p q r s) := by
    intro p q r s H
    have k1 : (a * e - b * f - c * g - d * h) / 2 = p := by rw [H.h1]; omega
    have k2 : (a * f + b * e + c * h - d * g) / 2 = q := by rw [H.h2]; omega
    have k3 : (a * g - b * h + c * e + d * f) / 2 = r := by rw [H.h3]; omega
    have k4 : (a * h + b * g - c * f + d * e) / 2 = s := by rw [H.h4]; omega
    have b1 : Bd 600 ((a * e - b * f - c * g - d * h) / 2) := Bd.mono (bd_ediv 2) (by decide)
    have b2 : Bd 600 ((a * f + b * e + c * h - d * g) / 2) := Bd.mono (bd_ediv 2) (by decide)
    have b3 : Bd 600 ((a * g - b * h + c * e + d * f) / 2) := Bd.mono (bd_ediv 2) (by decide)
    have b4 : Bd 600 ((a * h + b * g - c * f + d * e) / 2) := Bd.mono (bd_ediv 2) (by decide)
    have up : ∀ {i : Int}, Bd 50 i → Bd 600 i := fun h => h.mono (by decide)
    have := @ev_product a b c d e f g h (up inferInstance) (up inferInstance) (up inferInstance) (up inferInstance) (up inferInstance) (up inferInstance) (up inferInstance) (up inferInstance) hb hc hd hf hg hh b1 b2 b3 b4
    rw [k1, k2, k3, k4] at this
    rw [k1] at b1; rw [k2] at b2; rw [k3] at b3; rw [k4] at b4
    exact ⟨b1, b2, b3, b4, this⟩
  have key : ∃ p q r s, Pr a b c d e f g h p q r s ∧ (q - p) % 2 = 0 ∧ (r - p) % 2 = 0 ∧ (s - p) % 2 = 0 := by
    clear ev
    obtain ⟨b1, rfl⟩ := par hb
    obtain ⟨c1, rfl⟩ := par hc
    obtain ⟨d1, rfl⟩ := par hd
    obtain ⟨f1, rfl⟩ := par hf
    obtain ⟨g1, rfl⟩ := par hg
    obtain ⟨h1, rfl⟩ := par hh
    clear hb hc hd hf hg hh
    refine ⟨-(a * e) - (a * f1 + b1 * e + 2 * (b1 * f1)) - (a * g1 + c1 * e + 2 * (c1 * g1)) - (a * h1 + d1 * e + 2 * (d1 * h1)),
      a * e + a * f1 + b1 * e + (a * h1 + c1 * e + 2 * (c1 * h1)) - (a * g1 + d1 * e + 2 * (d1 * g1)),
      a * e + a * g1 - (a * h1 + b1 * e + 2 * (b1 * h1)) + c1 * e + (a * f1 + d1 * e + 2 * (d1 * f1)),
      a * e + a * h1 + (a * g1 + b1 * e + 2 * (b1 * g1)) - (a * f1 + c1 * e + 2 * (c1 * f1)) + d1 * e, ⟨?_, ?_, ?_, ?_⟩, ?_, ?_, ?_⟩
    · grind
    · grind
    · grind
    · grind
    · generalize a * e = x1 at *; generalize a * f1 = x2 at *; generalize b1 * e = x3 at *; generalize b1 * f1 = x4 at *; generalize a * g1 = x5 at *; generalize c1 * e = x6 at *; generalize c1 * g1 = x7 at *; generalize a * h1 = x8 at *; generalize d1 * e = x9 at *; generalize d1 * h1 = y1 at *; generalize c1 * h1 = y2 at *; generalize d1 * g1 = y3 at *
      omega
    · generalize a * e = x1 at *; generalize a * f1 = x2 at *; generalize b1 * e = x3 at *; generalize b1 * f1 = x4 at *; generalize a * g1 = x5 at *; generalize c1 * e = x6 at *; generalize c1 * g1 = x7 at *; generalize a * h1 = x8 at *; generalize d1 * e = x9 at *; generalize d1 * h1 = y1 at *; generalize b1 * h1 = y2 at *; generalize d1 * f1 = y3 at *
      omega
    · generalize a * e = x1 at *; generalize a * f1 = x2 at *; generalize b1 * e = x3 at *; generalize b1 * f1 = x4 at *; generalize a * g1 = x5 at *; generalize c1 * e = x6 at *; generalize c1 * g1 = x7 at *; generalize a * h1 = x8 at *; generalize d1 * e = x9 at *; generalize d1 * h1 = y1 at *; generalize b1 * g1 = y2 at *; generalize c1 * f1 = y3 at *
      omega
  obtain ⟨p, q, r, s, H, e1, e2, e3⟩ := key
  obtain ⟨b1, b2, b3, b4, m⟩ := ev p q r s H
  exact ⟨p, q, r, s, H, ⟨b1, b2, b3, b4, e1, e2, e3⟩, m⟩
theorem pr_sz {a b c d e f g h p q r s : Int} (H : Pr a b c d e f g h p q r s) : 4 * (p * p + q * q + r * r + s * s) = (a * a + b * b + c * c + d * d) * (e * e + f * f + g * g + h * h) := by
  obtain ⟨h1, h2, h3, h4⟩ := H
  have : 4 * (p * p + q * q + r * r + s * s) = (2 * p) * (2 * p) + (2 * q) * (2 * q) + (2 * r) * (2 * r) + (2 * s) * (2 * s) := by grind
  rw [this, ← h1, ← h2, ← h3, ← h4]
  clear this h1 h2 h3 h4
  grind
section
variable {a b c d e f g h p q r s : Int} (H : Pr a b c d e f g h p q r s)
include H
theorem pr1 : 4 * (p * p + q * q - r * r - s * s) = (a * a + b * b - c * c - d * d) * (e * e + f * f - g * g - h * h) + (2 * (b * c - a * d)) * (2 * (f * g + e * h)) + (2 * (b * d + a * c)) * (2 * (f * h - e * g)) := by
  obtain ⟨h1, h2, h3, h4⟩ := H
  have : 4 * (p * p + q * q - r * r - s * s) = (2 * p) * (2 * p) + (2 * q) * (2 * q) - (2 * r) * (2 * r) - (2 * s) * (2 * s) := by grind
  rw [this, ← h1, ← h2, ← h3, ← h4]; clear this h1 h2 h3 h4; grind
theorem pr2 : 4 * (2 * (q * r - p * s)) = (a * a + b * b - c * c - d * d) * (2 * (f * g - e * h)) + (2 * (b * c - a * d)) * (e * e - f * f + g * g - h * h) + (2 * (b * d + a * c)) * (2 * (g * h + e * f)) := by
  obtain ⟨h1, h2, h3, h4⟩ := H
  have : 4 * (2 * (q * r - p * s)) = 2 * ((2 * q) * (2 * r) - (2 * p) * (2 * s)) := by grind
  rw [this, ← h1, ← h2, ← h3, ← h4]; clear this h1 h2 h3 h4; grind
theorem pr3 : 4 * (2 * (q * s + p * r)) = (a * a + b * b - c * c - d * d) * (2 * (f * h + e * g)) + (2 * (b * c - a * d)) * (2 * (g * h - e * f)) + (2 * (b * d + a * c)) * (e * e - f * f - g * g + h * h) := by
  obtain ⟨h1, h2, h3, h4⟩ := H
  have : 4 * (2 * (q * s + p * r)) = 2 * ((2 * q) * (2 * s) + (2 * p) * (2 * r)) := by grind
  rw [this, ← h1, ← h2, ← h3, ← h4]; clear this h1 h2 h3 h4; grind
theorem pr4 : 4 * (2 * (q * r + p * s)) = (2 * (b * c + a * d)) * (e * e + f * f - g * g - h * h) + (a * a - b * b + c * c - d * d) * (2 * (f * g + e * h)) + (2 * (c * d - a * b)) * (2 * (f * h - e * g)) := by
  obtain ⟨h1, h2, h3, h4⟩ := H
  have : 4 * (2 * (q * r + p * s)) = 2 * ((2 * q) * (2 * r) + (2 * p) * (2 * s)) := by grind
  rw [this, ← h1, ← h2, ← h3, ← h4]; clear this h1 h2 h3 h4; grind
theorem pr5 : 4 * (p * p - q * q + r * r - s * s) = (2 * (b * c + a * d)) * (2 * (f * g - e * h)) + (a * a - b * b + c * c - d * d) * (e * e - f * f + g * g - h * h) + (2 * (c * d - a * b)) * (2 * (g * h + e * f)) := by
  obtain ⟨h1, h2, h3, h4⟩ := H
  have : 4 * (p * p - q * q + r * r - s * s) = (2 * p) * (2 * p) - (2 * q) * (2 * q) + (2 * r) * (2 * r) - (2 * s) * (2 * s) := by grind
  rw [this, ← h1, ← h2, ← h3, ← h4]; clear this h1 h2 h3 h4; grind
theorem pr6 : 4 * (2 * (r * s - p * q)) = (2 * (b * c + a * d)) * (2 * (f * h + e * g)) + (a * a - b * b + c * c - d * d) * (2 * (g * h - e * f)) + (2 * (c * d - a * b)) * (e * e - f * f - g * g + h * h) := by
  obtain ⟨h1, h2, h3, h4⟩ := H
  have : 4 * (2 * (r * s - p * q)) = 2 * ((2 * r) * (2 * s) - (2 * p) * (2 * q)) := by grind
  rw [this, ← h1, ← h2, ← h3, ← h4]; clear this h1 h2 h3 h4; grind
theorem pr7 : 4 * (2 * (q * s - p * r)) = (2 * (b * d - a * c)) * (e * e + f * f - g * g - h * h) + (2 * (c * d + a * b)) * (2 * (f * g + e * h)) + (a * a - b * b - c * c + d * d) * (2 * (f * h - e * g)) := by
  obtain ⟨h1, h2, h3, h4⟩ := H
  have : 4 * (2 * (q * s - p * r)) = 2 * ((2 * q) * (2 * s) - (2 * p) * (2 * r)) := by grind
  rw [this, ← h1, ← h2, ← h3, ← h4]; clear this h1 h2 h3 h4; grind
theorem pr8 : 4 * (2 * (r * s + p * q)) = (2 * (b * d - a * c)) * (2 * (f * g - e * h)) + (2 * (c * d + a * b)) * (e * e - f * f + g * g - h * h) + (a * a - b * b - c * c + d * d) * (2 * (g * h + e * f)) := by
  obtain ⟨h1, h2, h3, h4⟩ := H
  have : 4 * (2 * (r * s + p * q)) = 2 * ((2 * r) * (2 * s) + (2 * p) * (2 * q)) := by grind
  rw [this, ← h1, ← h2, ← h3, ← h4]; clear this h1 h2 h3 h4; grind
theorem pr9 : 4 * (p * p - q * q - r * r + s * s) = (2 * (b * d - a * c)) * (2 * (f * h + e * g)) + (2 * (c * d + a * b)) * (2 * (g * h - e * f)) + (a * a - b * b - c * c + d * d) * (e * e - f * f - g * g + h * h) := by
  obtain ⟨h1, h2, h3, h4⟩ := H
  have : 4 * (p * p - q * q - r * r + s * s) = (2 * p) * (2 * p) - (2 * q) * (2 * q) - (2 * r) * (2 * r) + (2 * s) * (2 * s) := by grind
  rw [this, ← h1, ← h2, ← h3, ← h4]; clear this h1 h2 h3 h4; grind
end
end Fw

set_option autoImplicit false
set_option linter.all false
set_option maxRecDepth 100000
set_option exponentiation.threshold 2000
namespace Fw
open PySem Fs
abbrev NZ (a b c d : Int) : Prop := (a == 0 && (b == 0 && (c == 0 && d == 0))) = false
theorem mm3 (G K x1 x2 x3 y1 y2 y3 r A1 A2 A3 B1 B2 B3 : Int) (h : 4 * r = A1 * B1 + A2 * B2 + A3 * B3) (a1 : A1 = G * x1) (a2 : A2 = G * x2) (a3 : A3 = G * x3) (b1 : B1 = K * y1) (b2 : B2 = K * y2) (b3 : B3 = K * y3) :
    (G * K) * (x1 * y1 + x2 * y2 + x3 * y3) = 4 * r := by rw [h, a1, a2, a3, b1, b2, b3]; clear h a1 a2 a3 b1 b2 b3; grind
theorem mm1 (G K x y r A B : Int) (h : 4 * r = A * B) (a1 : A = G * x) (b1 : B = K * y) : (G * K) * (y * x) = 4 * r := by rw [h, a1, b1]; clear h a1 b1; grind
theorem pos_r {G s : Int} (hG : 0 < G) (h : 0 < G * s) : 0 < s := by
  rcases Int.lt_or_le 0 s with z | z
  · exact z
  · have := Int.mul_nonpos_of_nonneg_of_nonpos (Int.le_of_lt hG) z
    omega
theorem then_T {a b c d e f g h p q r s : Int} (Q : Qd a b c d) (Q' : Qd e f g h) (Q2 : Qd p q r s) (n : NZ a b c d) (n' : NZ e f g h) (H : Pr a b c d e f g h p q r s) :
    m_turns_then [T e f g h, T a b c d] = .ret (T p q r s) := by
  rw [ev_turns_then _ _ (isT Q' n') (isT Q n)]
  obtain ⟨s0, x1, x2, x3, x4, x5, x6, x7, x8, x9, G, e0, hG, i0, i1, i2, i3, i4, i5, i6, i7, i8, i9, v0, v1, v2, v3, v4, v5, v6, v7, v8, v9⟩ := bdT Q
  obtain ⟨t0, y1, y2, y3, y4, y5, y6, y7, y8, y9, K, f0, hK, j0, j1, j2, j3, j4, j5, j6, j7, j8, j9, w0, w1, w2, w3, w4, w5, w6, w7, w8, w9⟩ := bdT Q'
  have hG := hG n
  have hK := hK n'
  rw [e0, f0, ev_turns_behind]
  have hs : 0 < s0 := by
    have := sz_pos n
    rw [v0] at this
    exact pos_r hG this
  have ht : 0 < t0 := by
    have := sz_pos n'
    rw [w0] at this
    exact pos_r hK this
  have hst : 0 < t0 * s0 := Int.mul_pos ht hs
  have hl : ∀ {a b c d e f g h i : Int}, (gcd9 (t0 * s0) a b c d e f g h i).log2 < 9000 := fun {a b c d e f g h i} => by
    have h1 := gcd9_le (s := t0 * s0) (a := a) (b := b) (c := c) (d := d) (e := e) (f := f) (g := g) (h := h) (i := i) hst
    have h2 := gcd9_pos (s := t0 * s0) (a := a) (b := b) (c := c) (d := d) (e := e) (f := f) (g := g) (h := h) (i := i) hst
    have h3 : (G * K) * (t0 * s0) = 4 * (p * p + q * q + r * r + s * s) := mm1 _ _ _ _ _ _ _ (pr_sz H) v0 w0
    have h4 : 0 < G * K := Int.mul_pos hG hK
    have h5 : t0 * s0 ≤ (G * K) * (t0 * s0) := by
      have := Int.mul_le_mul_of_nonneg_right (show (1 : Int) ≤ G * K by omega) (Int.le_of_lt hst)
      omega
    haveI := Q2.ba
    haveI := Q2.bb
    haveI := Q2.bc
    haveI := Q2.bd
    have bz : Bd 4820 (4 * (p * p + q * q + r * r + s * s)) := Bd.mono inferInstance (by decide)
    have h6 := bz.lt
    rw [← h3] at h6
    have h7 : gcd9 (t0 * s0) a b c d e f g h i < 2 ^ 4820 := by omega
    have := (Nat.log2_lt (Nat.ne_of_gt h2)).mpr h7
    omega
  rw [ev_shortened _ _ _ _ _ _ _ _ _ _ (gcd9_pos hst) hl]
  show Cm.ret (nrm _ _ _ _ _ _ _ _ _ _) = _
  unfold T
  congr 1
  refine nrm_eq (m := G * K) (n := 4) (Int.mul_pos hG hK) (by decide) ?_ ?_ ?_ ?_ ?_ ?_ ?_ ?_ ?_ ?_
  · exact mm1 _ _ _ _ _ _ _ (pr_sz H) v0 w0
  · exact mm3 _ _ _ _ _ _ _ _ _ _ _ _ _ _ _ (pr1 H) v1 v2 v3 w1 w4 w7
  · exact mm3 _ _ _ _ _ _ _ _ _ _ _ _ _ _ _ (pr2 H) v1 v2 v3 w2 w5 w8
  · exact mm3 _ _ _ _ _ _ _ _ _ _ _ _ _ _ _ (pr3 H) v1 v2 v3 w3 w6 w9
  · exact mm3 _ _ _ _ _ _ _ _ _ _ _ _ _ _ _ (pr4 H) v4 v5 v6 w1 w4 w7
  · exact mm3 _ _ _ _ _ _ _ _ _ _ _ _ _ _ _ (pr5 H) v4 v5 v6 w2 w5 w8
  · exact mm3 _ _ _ _ _ _ _ _ _ _ _ _ _ _ _ (pr6 H) v4 v5 v6 w3 w6 w9
  · exact mm3 _ _ _ _ _ _ _ _ _ _ _ _ _ _ _ (pr7 H) v7 v8 v9 w1 w4 w7
  · exact mm3 _ _ _ _ _ _ _ _ _ _ _ _ _ _ _ (pr8 H) v7 v8 v9 w2 w5 w8
  · exact mm3 _ _ _ _ _ _ _ _ _ _ _ _ _ _ _ (pr9 H) v7 v8 v9 w3 w6 w9
end Fw

set_option autoImplicit false
set_option linter.all false
set_option maxRecDepth 100000
set_option exponentiation.threshold 2000
namespace Fw
open PySem Fs
abbrev Five (q : Int) : Prop := q = 3 ∨ q = 5 ∨ q = 7 ∨ q = 11 ∨ q = 13
theorem lcGo_filter {g : DTg} {t : DT} {f : DE} {env : Fs.Env} (p : D → Bool) : ∀ {items : List D}, (∀ d ∈ items, ∃ e1, g d env = .ret e1 ∧ t e1 = .ret (p d) ∧ f e1 = .ret d ∧ flatD d = true) → lcGo g t f items env = .ret (items.filter p)
  | [], _ => rfl
  | d :: ds, h => by
    obtain ⟨e1, h1, h2, h3, h4⟩ := h d List.mem_cons_self
    have ih := lcGo_filter (items := ds) p fun d hd => h d (List.mem_cons_of_mem _ hd)
    rw [r_lc1, h1, Cm.ret_bind, h2, Cm.ret_bind, ih]
    cases hp : p d with
    | true => simp [h3, h4, hp]
    | false => simp [hp]
theorem rng_mem {lo : Int} {n : Nat} {d : D} : d ∈ rng lo n ↔ ∃ i : Nat, i < n ∧ d = .int (lo + i) := by
  unfold rng
  rw [List.mem_map]
  constructor
  · rintro ⟨i, hi, rfl⟩
    exact ⟨i, by simpa using hi, rfl⟩
  · rintro ⟨i, hi, rfl⟩
    exact ⟨i, by simpa using hi, rfl⟩
theorem inv_ex {q r : Int} (hq : Five q) (hr : r % q ≠ 0) : ∃ n : Int, 1 ≤ n ∧ n < q ∧ n * r % q = 1 := by
  have key : ∀ q : Nat, q ∈ [3, 5, 7, 11, 13] → ∀ r : Nat, r < q → r ≠ 0 → ∃ n : Nat, n < q ∧ 1 ≤ n ∧ n * r % q = 1 := by decide
  have h0 : ∃ m : Nat, q = m ∧ m ∈ [3, 5, 7, 11, 13] := by
    rcases hq with rfl | rfl | rfl | rfl | rfl
    · exact ⟨3, rfl, by decide⟩
    · exact ⟨5, rfl, by decide⟩
    · exact ⟨7, rfl, by decide⟩
    · exact ⟨11, rfl, by decide⟩
    · exact ⟨13, rfl, by decide⟩
  obtain ⟨m, rfl, hm⟩ := h0
  have hp : 0 < (m : Int) := by
    rcases hq with h | h | h | h | h <;> omega
  have h1 := Int.emod_nonneg r (Int.ne_of_gt hp)
  have h2 := Int.emod_lt_of_pos r hp
  obtain ⟨n, n1, n2, n3⟩ := key m hm (r % m).toNat (by omega) (by omega)
  refine ⟨n, by omega, by omega, ?_⟩
  have e : ((n * (r % m).toNat % m : Nat) : Int) = 1 := by rw [n3]; rfl
  rw [Int.natCast_emod, Int.natCast_mul, Int.toNat_of_nonneg h1] at e
  rw [Int.mul_emod] at e
  rw [Int.mul_emod]
  rw [Int.emod_emod_of_dvd _ (Int.dvd_refl _)] at e
  exact e
theorem ev_left (q s a b c d e f g h i : Int) (hq : Five q) [Bd 5000 s] [Bd 5000 a] [Bd 5000 b] [Bd 5000 c] [Bd 5000 d] [Bd 5000 e] [Bd 5000 f] [Bd 5000 g] [Bd 5000 h] [Bd 5000 i] (hs : s % q ≠ 0) :
    ∃ k : Int, k * s % q = 1 ∧ m_Lleft [.int q, turnD s a b c d e f g h i] = .ret (r33 (k * a % q) (k * b % q) (k * c % q) (k * d % q) (k * e % q) (k * f % q) (k * g % q) (k * h % q) (k * i % q)) := by
  have q1 : 3 ≤ q ∧ q ≤ 13 := by rcases hq with h | h | h | h | h <;> omega
  obtain ⟨q1, q2⟩ := q1
  let p : D → Bool := fun d => match d with | .int n => n * s % q == 1 | _ => false
  have hgo : lcGo (gN 3) (dTru (dOp vEq (dOp vMod (dOp vMul (dPeek 3) (dOp vIx (dPeek 1) (dCst (.int 0)))) (dPeek 0)) (dCst (.int 1)))) (dVar 3) (rng 1 (q - 1).toNat) [.val (.int q), .val (turnD s a b c d e f g h i), .no, .no, .no, .no] = .ret ((rng 1 (q - 1).toNat).filter p) := by
    refine lcGo_filter p fun x hx => ?_
    obtain ⟨j, hj, rfl⟩ := rng_mem.mp hx
    refine ⟨_, rfl, ?_, by simp, rfl⟩
    have hj' : j < 13 := by omega
    generalize hn : (1 : Int) + (j : Int) = n
    haveI : Bd 10 n := ⟨by omega⟩
    simp [vMul_a, show 0 < q by omega, p]
  obtain ⟨n0, n1, n2, n3⟩ := inv_ex hq hs
  have hmem : PyData.int n0 ∈ (rng 1 (q - 1).toNat).filter p := by
    rw [List.mem_filter]
    refine ⟨rng_mem.mpr ⟨(n0 - 1).toNat, by omega, ?_⟩, by simp [p, n3]⟩
    congr 1
    omega
  cases hF : (rng 1 (q - 1).toNat).filter p with
  | nil => rw [hF] at hmem; cases hmem
  | cons x xs =>
    have hx : x ∈ (rng 1 (q - 1).toNat).filter p := by rw [hF]; exact List.mem_cons_self
    rw [List.mem_filter] at hx
    obtain ⟨j, hj, rfl⟩ := rng_mem.mp hx.1
    have hx2 := hx.2
    rw [hF] at hgo
    clear hx hF hmem
    generalize hk : (1 : Int) + (j : Int) = k at hx2 hgo
    haveI : Bd 10 k := ⟨by omega⟩
    refine ⟨k, by simpa [p] using hx2, ?_⟩
    have hset : dSet 2 (dOp vIx (dOnlyL (dLc (dRng2 (dCons (dCst (.int 1)) (dCons (dVar 0) dNil))) (gN 3) (dTru (dOp vEq (dOp vMod (dOp vMul (dPeek 3) (dOp vIx (dPeek 1) (dCst (.int 0)))) (dPeek 0)) (dCst (.int 1)))) (dVar 3) [3])) (dCst (.int 0))) [.val (.int q), .val (turnD s a b c d e f g h i), .no, .no, .no, .no] =
        .ret (.nx [.val (.int q), .val (turnD s a b c d e f g h i), .val (.int k), .no, .no, .no]) := by
      have hr : dRng2 (dCons (dCst (.int 1)) (dCons (dVar 0) dNil)) [.val (.int q), .val (turnD s a b c d e f g h i), .no, .no, .no, .no] = .ret (rng 1 (q - 1).toNat) := if_pos (by omega)
      have hlen : (rng 1 (q - 1).toNat).length < 1000000 := by unfold rng; rw [List.length_map, List.length_range]; omega
      have hlc : dLc (dRng2 (dCons (dCst (.int 1)) (dCons (dVar 0) dNil))) (gN 3) (dTru (dOp vEq (dOp vMod (dOp vMul (dPeek 3) (dOp vIx (dPeek 1) (dCst (.int 0)))) (dPeek 0)) (dCst (.int 1)))) (dVar 3) [3] [.val (.int q), .val (turnD s a b c d e f g h i), .no, .no, .no, .no] = .ret (.list (.int k :: xs)) := by
        rw [r_lc, hr, Cm.ret_bind, if_pos hlen]
        show (lcGo _ _ _ _ [.val (.int q), .val (turnD s a b c d e f g h i), .no, .no, .no, .no]).bind _ = _
        rw [hgo]
        rfl
      rw [r_set, r_op, r_onlyL, hlc]
      simp
    have h0 : m_Lleft [.int q, turnD s a b c d e f g h i] = (S_Lleft [.val (.int q), .val (turnD s a b c d e f g h i), .no, .no, .no, .no]).bind outD := rfl
    rw [h0]
    unfold S_Lleft
    rw [r_seq, hset]
    simp [vMul_a, show 0 < q by omega]
end Fw

set_option autoImplicit false
set_option linter.all false
set_option maxRecDepth 100000
set_option exponentiation.threshold 2000
namespace Fw
open PySem Fs
-- congruences
theorem cg_mul {q x y z w : Int} (h : x % q = y % q) (h' : z % q = w % q) : (x * z) % q = (y * w) % q := by rw [Int.mul_emod, h, h', ← Int.mul_emod]
theorem cg_add {q x y z w : Int} (h : x % q = y % q) (h' : z % q = w % q) : (x + z) % q = (y + w) % q := by rw [Int.add_emod, h, h', ← Int.add_emod]
theorem cg_sub {q x y z w : Int} (h : x % q = y % q) (h' : z % q = w % q) : (x - z) % q = (y - w) % q := by rw [Int.sub_emod, h, h', ← Int.sub_emod]
theorem cg_mod (q x : Int) : x % q % q = x % q := Int.emod_emod_of_dvd _ (Int.dvd_refl _)
/-- an inverse's uniqueness -/
theorem inv_cg {q u v S S' : Int} (h : u * S % q = 1) (h' : v * S' % q = 1) (hs : S % q = S' % q) : u % q = v % q := by
  have h1 : 1 % q = 1 := by rw [← h]; exact cg_mod q _
  have hu : u * (v * S') % q = u * 1 % q := cg_mul rfl (by rw [h', h1])
  have hv : v * (u * S) % q = v * 1 % q := cg_mul rfl (by rw [h, h1])
  have e : u * (v * S') % q = v * (u * S) % q := by
    rw [show u * (v * S') = (u * v) * S' by rw [Int.mul_assoc], show v * (u * S) = (u * v) * S by rw [← Int.mul_assoc, Int.mul_comm v u]]
    exact cg_mul rfl hs.symm
  rw [Int.mul_one] at hu hv
  rw [← hu, ← hv, e]
def lf (v q a b c d : Int) : D := r33 (v * (a * a + b * b - c * c - d * d) % q) (v * (2 * (b * c - a * d)) % q) (v * (2 * (b * d + a * c)) % q) (v * (2 * (b * c + a * d)) % q) (v * (a * a - b * b + c * c - d * d) % q) (v * (2 * (c * d - a * b)) % q) (v * (2 * (b * d - a * c)) % q) (v * (2 * (c * d + a * b)) % q) (v * (a * a - b * b - c * c + d * d) % q)
theorem left_T {q a b c d : Int} (hq : Five q) (Q : Qd a b c d) (n : NZ a b c d) (hS : (a * a + b * b + c * c + d * d) % q ≠ 0) : ∃ v, v * (a * a + b * b + c * c + d * d) % q = 1 ∧ m_Lleft [.int q, T a b c d] = .ret (lf v q a b c d) := by
  obtain ⟨s0, x1, x2, x3, x4, x5, x6, x7, x8, x9, G, e0, hG, i0, i1, i2, i3, i4, i5, i6, i7, i8, i9, v0, v1, v2, v3, v4, v5, v6, v7, v8, v9⟩ := bdT Q
  rw [e0]
  unfold lf
  rw [v0] at hS ⊢
  have hs0 : s0 % q ≠ 0 := fun z => hS (by rw [Int.mul_emod, z, Int.mul_zero, Int.zero_emod])
  have hG0 : G % q ≠ 0 := fun z => hS (by rw [Int.mul_emod, z, Int.zero_mul, Int.zero_emod])
  obtain ⟨k, hk, ek⟩ := ev_left q s0 x1 x2 x3 x4 x5 x6 x7 x8 x9 hq hs0
  obtain ⟨u, _, _, hu⟩ := inv_ex hq hG0
  have h1 : 1 % q = 1 := by rw [← hk]; exact cg_mod q _
  have sw : ∀ x : Int, k * u * (G * x) % q = k * x % q := fun x => by
    rw [show k * u * (G * x) = (u * G) * (k * x) by clear ek hk hu h1 v0 v1 v2 v3 v4 v5 v6 v7 v8 v9; grind]
    have := cg_mul (z := k * x) (w := k * x) (show (u * G) % q = 1 % q by rw [hu, h1]) rfl
    rw [this, Int.one_mul]
  refine ⟨k * u, by rw [sw]; exact hk, ?_⟩
  rw [ek, v1, v2, v3, v4, v5, v6, v7, v8, v9, sw, sw, sw, sw, sw, sw, sw, sw, sw]
theorem cg_polys {q a b c d a' b' c' d' : Int} (ha : a % q = a' % q) (hb : b % q = b' % q) (hc : c % q = c' % q) (hd : d % q = d' % q) :
    (a * a + b * b + c * c + d * d) % q = (a' * a' + b' * b' + c' * c' + d' * d') % q ∧ ∀ v v' : Int, v % q = v' % q → lf v q a b c d = lf v' q a' b' c' d' := by
  refine ⟨cg_add (cg_add (cg_add (cg_mul ha ha) (cg_mul hb hb)) (cg_mul hc hc)) (cg_mul hd hd), fun v v' hv => ?_⟩
  unfold lf
  have e1 := cg_mul hv (cg_sub (cg_sub (cg_add (cg_mul ha ha) (cg_mul hb hb)) (cg_mul hc hc)) (cg_mul hd hd))
  have e5 := cg_mul hv (cg_sub (cg_add (cg_sub (cg_mul ha ha) (cg_mul hb hb)) (cg_mul hc hc)) (cg_mul hd hd))
  have e9 := cg_mul hv (cg_add (cg_sub (cg_sub (cg_mul ha ha) (cg_mul hb hb)) (cg_mul hc hc)) (cg_mul hd hd))
  have t : ∀ {x y : Int}, x % q = y % q → v * (2 * x) % q = v' * (2 * y) % q := fun h => cg_mul hv (cg_mul rfl h)
  rw [e1, e5, e9, t (cg_sub (cg_mul hb hc) (cg_mul ha hd)), t (cg_add (cg_mul hb hd) (cg_mul ha hc)), t (cg_add (cg_mul hb hc) (cg_mul ha hd)), t (cg_sub (cg_mul hc hd) (cg_mul ha hb)), t (cg_sub (cg_mul hb hd) (cg_mul ha hc)), t (cg_add (cg_mul hc hd) (cg_mul ha hb))]
/-- alike quads: alike turns -/
theorem left_cg {q a b c d a' b' c' d' : Int} (hq : Five q) (Q : Qd a b c d) (n : NZ a b c d) (Q' : Qd a' b' c' d') (n' : NZ a' b' c' d') (hS : (a * a + b * b + c * c + d * d) % q ≠ 0)
    (ha : a % q = a' % q) (hb : b % q = b' % q) (hc : c % q = c' % q) (hd : d % q = d' % q) : ∃ x, SeqAt.shaped x = true ∧ flatD x = true ∧ m_Lleft [.int q, T a b c d] = .ret x ∧ m_Lleft [.int q, T a' b' c' d'] = .ret x := by
  obtain ⟨h1, h2⟩ := cg_polys ha hb hc hd
  obtain ⟨v, hv, e⟩ := left_T hq Q n hS
  obtain ⟨v', hv', e'⟩ := left_T hq Q' n' (by rw [← h1]; exact hS)
  exact ⟨lf v q a b c d, sh_r33 _ _ _ _ _ _ _ _ _, rfl, e, by rw [e', h2 v v' (inv_cg hv hv' h1)]⟩
-- halves, tables
def hf (q n : Int) : Int := if n % q % 2 = 0 then n % q / 2 else (n % q + q) / 2
theorem ev_half (q n : Int) (hq : 0 < q) : m_half_by [.int q, .int n] = .ret (.int (hf q n)) := by
  unfold hf
  by_cases h : n % q % 2 = 0 <;> simp [m_half_by, S_half_by, hq, h]
theorem hf_rng {q n : Int} (h3 : 3 ≤ q) (ho : q % 2 = 1) : 0 ≤ hf q n ∧ hf q n < q := by
  unfold hf
  have h1 := Int.emod_nonneg n (show q ≠ 0 by omega)
  have h2 := Int.emod_lt_of_pos n (show 0 < q by omega)
  split <;> omega
theorem hf_two {q n : Int} (h3 : 3 ≤ q) (ho : q % 2 = 1) : (2 * hf q n) % q = n % q := by
  unfold hf
  have h1 := Int.emod_nonneg n (show q ≠ 0 by omega)
  have h2 := Int.emod_lt_of_pos n (show 0 < q by omega)
  generalize hm : n % q = m at *
  split
  · rw [show 2 * (m / 2) = m by omega, ← hm, cg_mod]
  · rw [show 2 * ((m + q) / 2) = m + q by omega, Int.add_emod_right, ← hm, cg_mod]
theorem hf_cg {q n m : Int} (h : n % q = m % q) : hf q n = hf q m := by unfold hf; rw [h]
@[simp] theorem r_chain (g g' : D → D → Cm D) (f1 f2 f3 : DE) (env : Fs.Env) : dChain g g' f1 f2 f3 env = (f1 env).bind fun x => (f2 env).bind fun y => (g x y).bind fun z => match z with
  | .bool b => if b = true then (f3 env).bind fun w => g' y w else .ret (.bool false)
  | _ => .bad := by unfold dChain; rfl
structure Mk (q e f : Int) : Prop where
  m : m_marks_by [.int q] = .ret (.tuple [.int e, .int f])
  be : Bd 10 e
  bf : Bd 10 f
  s : (e * e + f * f) % q = (-1) % q
  o : q % 2 = 1
  g : 3 ≤ q
  l : q ≤ 13
  n : m_need_odd [.int q] = .ret .none
theorem marks_ex {q : Int} (hq : Five q) : ∃ e f, Mk q e f := by
  rcases hq with rfl | rfl | rfl | rfl | rfl
  · exact ⟨1, 1, marks3, ⟨by decide⟩, ⟨by decide⟩, by decide, by decide, by decide, by decide, five (by simp)⟩
  · exact ⟨0, 2, marks5, ⟨by decide⟩, ⟨by decide⟩, by decide, by decide, by decide, by decide, five (by simp)⟩
  · exact ⟨2, 3, marks7, ⟨by decide⟩, ⟨by decide⟩, by decide, by decide, by decide, by decide, five (by simp)⟩
  · exact ⟨1, 3, marks11, ⟨by decide⟩, ⟨by decide⟩, by decide, by decide, by decide, by decide, five (by simp)⟩
  · exact ⟨0, 5, marks13, ⟨by decide⟩, ⟨by decide⟩, by decide, by decide, by decide, by decide, five (by simp)⟩
def tb (q e f a b c d : Int) : D := q4 (hf q (a + c * e - d * f)) (hf q (c * f + d * e - b)) (hf q (b + c * f + d * e)) (hf q (a - c * e + d * f))
theorem ev_table {q e f a b c d : Int} (M : Mk q e f) (Q : Qd a b c d) : m_table_of [.int q, q4 a b c d] = .ret (tb q e f a b c d) := by
  haveI := Q.ba
  haveI := Q.bb
  haveI := Q.bc
  haveI := Q.bd
  haveI := M.be
  haveI := M.bf
  have hq : 0 < q := by have := M.g; omega
  simp [m_table_of, S_table_of, M.n, ev_need_quad a b c d Q.hb Q.hc Q.hd, m_table_by, S_table_by, M.m, vMul_a, ev_half, hq, tb]
theorem ev_is_table {q A B C E : Int} (h : 0 ≤ A ∧ A < q) (h1 : 0 ≤ B ∧ B < q) (h2 : 0 ≤ C ∧ C < q) (h3 : 0 ≤ E ∧ E < q) : m_is_table_of [.int q, q4 A B C E] = .ret (.bool true) := by
  simp [m_is_table_of, S_is_table_of, ev_is_number, pLe, pLt, h, h1, h2, h3]
theorem ev_then {q e f A B C E A' B' C' E' : Int} (M : Mk q e f) (h : 0 ≤ A ∧ A < q) (h1 : 0 ≤ B ∧ B < q) (h2 : 0 ≤ C ∧ C < q) (h3 : 0 ≤ E ∧ E < q) (h' : 0 ≤ A' ∧ A' < q) (h1' : 0 ≤ B' ∧ B' < q) (h2' : 0 ≤ C' ∧ C' < q) (h3' : 0 ≤ E' ∧ E' < q) :
    m_tables_then [.int q, q4 A B C E, q4 A' B' C' E'] = .ret (q4 ((A * A' + B * C') % q) ((A * B' + B * E') % q) ((C * A' + E * C') % q) ((C * B' + E * E') % q)) := by
  have g := M.g
  have l := M.l
  haveI : Bd 10 A := ⟨by omega⟩
  haveI : Bd 10 B := ⟨by omega⟩
  haveI : Bd 10 C := ⟨by omega⟩
  haveI : Bd 10 E := ⟨by omega⟩
  haveI : Bd 10 A' := ⟨by omega⟩
  haveI : Bd 10 B' := ⟨by omega⟩
  haveI : Bd 10 C' := ⟨by omega⟩
  haveI : Bd 10 E' := ⟨by omega⟩
  have hq : 0 < q := by omega
  simp [m_tables_then, S_tables_then, M.n, ev_is_table h h1 h2 h3, ev_is_table h' h1' h2' h3', m_then_by, S_then_by, vMul_a, hq]
theorem ev_low {q e f A B C E : Int} (M : Mk q e f) (h : 0 ≤ A ∧ A < q) (h1 : 0 ≤ B ∧ B < q) (h2 : 0 ≤ C ∧ C < q) (h3 : 0 ≤ E ∧ E < q) :
    m_quad_of_table [.int q, q4 A B C E] = .ret (q4 (2 * hf q (A + E)) (2 * hf q (C - B)) (2 * hf q (-(e * (A - E) + f * (B + C)))) (2 * hf q (f * (A - E) - e * (B + C)))) := by
  have g := M.g
  have l := M.l
  haveI := M.be
  haveI := M.bf
  haveI : Bd 10 A := ⟨by omega⟩
  haveI : Bd 10 B := ⟨by omega⟩
  haveI : Bd 10 C := ⟨by omega⟩
  haveI : Bd 10 E := ⟨by omega⟩
  have hq : 0 < q := by omega
  haveI : ∀ n, Bd 10 (hf q n) := fun n => ⟨by have := hf_rng (n := n) g M.o; omega⟩
  simp [m_quad_of_table, S_quad_of_table, M.n, ev_is_table h h1 h2 h3, m_quad_by, S_quad_by, M.m, vMul_a, hq, ev_half]
end Fw

set_option autoImplicit false
set_option linter.all false
set_option maxRecDepth 100000
set_option exponentiation.threshold 2000
namespace Fw
open PySem Fs
theorem can2 {m x y : Int} (ho : m % 2 = 1) (h : 2 * x % m = 2 * y % m) : x % m = y % m := by
  have : (2 * x - 2 * y) % m = 0 := by rw [Int.sub_emod, h, Int.sub_self, Int.zero_emod]
  obtain ⟨k, hk⟩ := Int.dvd_of_emod_eq_zero this
  obtain ⟨j, hj⟩ : ∃ j, m = 2 * j + 1 := ⟨m / 2, by omega⟩
  have h2 : k % 2 = 0 := by
    subst hj
    have : (2 * j + 1) * k = 2 * (j * k) + k := by rw [Int.add_mul, Int.one_mul, Int.mul_assoc]
    rw [this] at hk
    omega
  obtain ⟨l, hl⟩ : ∃ l, k = 2 * l := ⟨k / 2, by omega⟩
  subst hl
  have h3 : x = y + m * l := by
    have : m * (2 * l) = 2 * (m * l) := by rw [← Int.mul_assoc, Int.mul_comm m 2, Int.mul_assoc]
    omega
  rw [h3, Int.add_mul_emod_self_left]
theorem can4 {m x y : Int} (ho : m % 2 = 1) (h : 4 * x % m = 4 * y % m) : x % m = y % m := can2 ho (can2 ho (by
  rw [show 2 * (2 * x) = 4 * x by omega, show 2 * (2 * y) = 4 * y by omega]; exact h))
/-- with e * e + f * f = -1: a rest -/
theorem cg_ef {m e f X Y K : Int} (hs : (e * e + f * f) % m = (-1) % m) (h : X = Y + K * (e * e + f * f + 1)) : X % m = Y % m := by
  have h1 : (e * e + f * f + 1) % m = 0 := by
    have : (e * e + f * f + 1) % m = (-1 + 1) % m := cg_add hs rfl
    rw [this]; exact Int.zero_emod _
  have h2 : K * (e * e + f * f + 1) % m = 0 := by rw [Int.mul_emod, h1, Int.mul_zero, Int.zero_emod]
  have h3 : X % m = (Y + 0) % m := by rw [h]; exact cg_add rfl (by rw [h2, Int.zero_emod])
  rw [h3, Int.add_zero]
theorem low_cg {m e f a b c d : Int} (M : Mk m e f) :
    (2 * hf m (hf m (a + c * e - d * f) + hf m (a - c * e + d * f))) % m = a % m ∧ (2 * hf m (hf m (b + c * f + d * e) - hf m (c * f + d * e - b))) % m = b % m ∧
    (2 * hf m (-(e * (hf m (a + c * e - d * f) - hf m (a - c * e + d * f)) + f * (hf m (c * f + d * e - b) + hf m (b + c * f + d * e))))) % m = c % m ∧
    (2 * hf m (f * (hf m (a + c * e - d * f) - hf m (a - c * e + d * f)) - e * (hf m (c * f + d * e - b) + hf m (b + c * f + d * e)))) % m = d % m := by
  have g := M.g
  have o := M.o
  have hs := M.s
  rw [hf_two g o, hf_two g o, hf_two g o, hf_two g o]
  have r1 := hf_two (n := a + c * e - d * f) g o
  have r2 := hf_two (n := c * f + d * e - b) g o
  have r3 := hf_two (n := b + c * f + d * e) g o
  have r4 := hf_two (n := a - c * e + d * f) g o
  generalize hf m (a + c * e - d * f) = A at *
  generalize hf m (c * f + d * e - b) = B at *
  generalize hf m (b + c * f + d * e) = C at *
  generalize hf m (a - c * e + d * f) = E at *
  clear M g
  refine ⟨can2 o ?_, can2 o ?_, can2 o ?_, can2 o ?_⟩
  · have := cg_add r1 r4
    rw [show 2 * (A + E) = 2 * A + 2 * E by omega, this]
    congr 1
    omega
  · have := cg_sub r3 r2
    rw [show 2 * (C - B) = 2 * C - 2 * B by omega, this]
    congr 1
    omega
  · have h1 := cg_mul (x := e) (y := e) rfl (cg_sub r1 r4)
    have h2 := cg_mul (x := f) (y := f) rfl (cg_add r2 r3)
    have h3 := cg_sub (x := 0) (y := 0) rfl (cg_add h1 h2)
    rw [show 2 * -(e * (A - E) + f * (B + C)) = 0 - (e * (2 * A - 2 * E) + f * (2 * B + 2 * C)) by clear r1 r2 r3 r4 h1 h2 h3 hs o; grind, h3]
    exact cg_ef hs (K := -(2 * c)) (by clear r1 r2 r3 r4 h1 h2 h3 hs o; grind)
  · have h1 := cg_mul (x := f) (y := f) rfl (cg_sub r1 r4)
    have h2 := cg_mul (x := e) (y := e) rfl (cg_add r2 r3)
    have h3 := cg_sub h1 h2
    rw [show 2 * (f * (A - E) - e * (B + C)) = f * (2 * A - 2 * E) - e * (2 * B + 2 * C) by clear r1 r2 r3 r4 h1 h2 h3 hs o; grind, h3]
    exact cg_ef hs (K := -(2 * d)) (by clear r1 r2 r3 r4 h1 h2 h3 hs o; grind)
theorem low_Qd {m : Int} {u v w x : Int} (h3 : 3 ≤ m) (hl : m ≤ 13) (ho : m % 2 = 1) : Qd (2 * hf m u) (2 * hf m v) (2 * hf m w) (2 * hf m x) := by
  have b : ∀ n, Bd 600 (2 * hf m n) := fun n => ⟨by
    have := hf_rng (n := n) h3 ho
    have h2 : (26 : Nat) < 2 ^ 600 := by decide +kernel
    generalize (2 : Nat) ^ 600 = z at h2 ⊢
    omega⟩
  exact ⟨b _, b _, b _, b _, by omega, by omega, by omega⟩
/-- a product's table -/
theorem then_one {m h1 h2 h3 h4 r1 r2 r3 r4 R : Int} (ho : m % 2 = 1) (e1 : 2 * h1 % m = r1 % m) (e2 : 2 * h2 % m = r2 % m) (e3 : 2 * h3 % m = r3 % m) (e4 : 2 * h4 % m = r4 % m) (h3m : 3 ≤ m) (hR : (r1 * r2 + r3 * r4) % m = 2 * R % m) :
    (h1 * h2 + h3 * h4) % m = hf m R := by
  have hr := hf_rng (n := R) h3m ho
  rw [← Int.emod_eq_of_lt hr.1 hr.2]
  refine can4 ho ?_
  have h := cg_add (cg_mul e1 e2) (cg_mul e3 e4)
  rw [show 4 * (h1 * h2 + h3 * h4) = 2 * h1 * (2 * h2) + 2 * h3 * (2 * h4) by clear e1 e2 e3 e4 hR hr h; grind, h, hR]
  have h5 := cg_mul (x := 2) (y := 2) rfl (hf_two (n := R) h3m ho)
  rw [show 4 * hf m R = 2 * (2 * hf m R) by omega, h5]
theorem tb_then {m e f a b c d a2 b2 c2 d2 p q r s : Int} (M : Mk m e f) (H : Pr a b c d a2 b2 c2 d2 p q r s) :
    m_tables_then [.int m, tb m e f a b c d, tb m e f a2 b2 c2 d2] = .ret (tb m e f p q r s) := by
  have g := M.g
  have o := M.o
  have hs := M.s
  unfold tb
  rw [ev_then M (hf_rng g o) (hf_rng g o) (hf_rng g o) (hf_rng g o) (hf_rng g o) (hf_rng g o) (hf_rng g o) (hf_rng g o)]
  obtain ⟨p1, p2, p3, p4⟩ := H
  have t := fun (n : Int) => hf_two (n := n) g o
  rw [then_one (R := p + r * e - s * f) o (t _) (t _) (t _) (t _) g ?_, then_one (R := r * f + s * e - q) o (t _) (t _) (t _) (t _) g ?_, then_one (R := q + r * f + s * e) o (t _) (t _) (t _) (t _) g ?_, then_one (R := p - r * e + s * f) o (t _) (t _) (t _) (t _) g ?_]
  · refine cg_ef hs (K := c * c2 + d * d2) ?_
    rw [show 2 * (p - r * e + s * f) = (2 * p) - (2 * r) * e + (2 * s) * f by clear p1 p2 p3 p4 hs g o t; grind, ← p1, ← p3, ← p4]
    clear p1 p2 p3 p4 hs g o t M; grind
  · refine cg_ef hs (K := d * c2 - c * d2) ?_
    rw [show 2 * (q + r * f + s * e) = (2 * q) + (2 * r) * f + (2 * s) * e by clear p1 p2 p3 p4 hs g o t; grind, ← p2, ← p3, ← p4]
    clear p1 p2 p3 p4 hs g o t M; grind
  · refine cg_ef hs (K := c * d2 - d * c2) ?_
    rw [show 2 * (r * f + s * e - q) = (2 * r) * f + (2 * s) * e - (2 * q) by clear p1 p2 p3 p4 hs g o t; grind, ← p2, ← p3, ← p4]
    clear p1 p2 p3 p4 hs g o t M; grind
  · refine cg_ef hs (K := c * c2 + d * d2) ?_
    rw [show 2 * (p + r * e - s * f) = (2 * p) + (2 * r) * e - (2 * s) * f by clear p1 p2 p3 p4 hs g o t; grind, ← p1, ← p3, ← p4]
    clear p1 p2 p3 p4 hs g o t M; grind
theorem tb_cg {m e f a b c d a' b' c' d' : Int} (ha : a % m = a' % m) (hb : b % m = b' % m) (hc : c % m = c' % m) (hd : d % m = d' % m) : tb m e f a b c d = tb m e f a' b' c' d' := by
  unfold tb
  rw [hf_cg (cg_sub (cg_add ha (cg_mul hc (rfl : e % m = e % m))) (cg_mul hd (rfl : f % m = f % m))), hf_cg (cg_sub (cg_add (cg_mul hc (rfl : f % m = f % m)) (cg_mul hd (rfl : e % m = e % m))) hb),
    hf_cg (cg_add (cg_add hb (cg_mul hc (rfl : f % m = f % m))) (cg_mul hd (rfl : e % m = e % m))), hf_cg (cg_add (cg_sub ha (cg_mul hc (rfl : e % m = e % m))) (cg_mul hd (rfl : f % m = f % m)))]
end Fw

set_option autoImplicit false
set_option linter.all false
set_option maxRecDepth 100000
set_option exponentiation.threshold 2000
namespace Fw
open PySem Fs
theorem due_one {m u w v X1 X2 X3 Y1 Y2 Y3 B : Int} (hB : 4 * B = X1 * Y1 + X2 * Y2 + X3 * Y3) (hv : 4 * u * w % m = v % m) :
    (u * X1 % m * (w * Y1 % m) + u * X2 % m * (w * Y2 % m) + u * X3 % m * (w * Y3 % m)) % m = v * B % m := by
  have h := cg_add (cg_add (cg_mul (cg_mod m (u * X1)) (cg_mod m (w * Y1))) (cg_mul (cg_mod m (u * X2)) (cg_mod m (w * Y2)))) (cg_mul (cg_mod m (u * X3)) (cg_mod m (w * Y3)))
  have h2 := cg_mul (z := B) (w := B) hv rfl
  rw [h, ← h2, show 4 * u * w * B = u * w * (4 * B) by clear h h2 hB hv; grind, hB]
  congr 1
  clear h h2 hB hv; grind
theorem prod_S {m a b c d a2 b2 c2 d2 p q r s : Int} (hm : Five m) (H : Pr a b c d a2 b2 c2 d2 p q r s) (n1 : (a * a + b * b + c * c + d * d) % m ≠ 0) (n2 : (a2 * a2 + b2 * b2 + c2 * c2 + d2 * d2) % m ≠ 0) :
    (p * p + q * q + r * r + s * s) % m ≠ 0 := by
  intro z
  obtain ⟨u, _, _, hu⟩ := inv_ex hm n1
  obtain ⟨w, _, _, hw⟩ := inv_ex hm n2
  have h := pr_sz H
  have h1 := cg_mul (show u * (a * a + b * b + c * c + d * d) % m = 1 % m by rw [hu]; rcases hm with rfl | rfl | rfl | rfl | rfl <;> rfl) (show w * (a2 * a2 + b2 * b2 + c2 * c2 + d2 * d2) % m = 1 % m by rw [hw]; rcases hm with rfl | rfl | rfl | rfl | rfl <;> rfl)
  have h2 : u * (a * a + b * b + c * c + d * d) * (w * (a2 * a2 + b2 * b2 + c2 * c2 + d2 * d2)) = (p * p + q * q + r * r + s * s) * (4 * u * w) := by
    have : u * (a * a + b * b + c * c + d * d) * (w * (a2 * a2 + b2 * b2 + c2 * c2 + d2 * d2)) = u * w * ((a * a + b * b + c * c + d * d) * (a2 * a2 + b2 * b2 + c2 * c2 + d2 * d2)) := by clear h h1 hu hw z n1 n2 H; grind
    rw [this, ← h]
    clear h h1 hu hw z n1 n2 H this; grind
  rw [h2, Int.mul_emod, z, Int.zero_mul, Int.zero_emod] at h1
  rcases hm with rfl | rfl | rfl | rfl | rfl <;> exact absurd h1 (by decide)
theorem NZ_of {m a b c d : Int} (h : (a * a + b * b + c * c + d * d) % m ≠ 0) : NZ a b c d := by
  unfold NZ
  cases hz : (a == 0 && (b == 0 && (c == 0 && d == 0))) with
  | false => rfl
  | true =>
    simp only [Bool.and_eq_true, beq_iff_eq] at hz
    obtain ⟨rfl, rfl, rfl, rfl⟩ := hz
    exact absurd (Int.zero_emod m) h
def due33 (x1 x2 x3 x4 x5 x6 x7 x8 x9 y1 y2 y3 y4 y5 y6 y7 y8 y9 m : Int) : D :=
  r33 ((x1 * y1 + x2 * y4 + x3 * y7) % m) ((x1 * y2 + x2 * y5 + x3 * y8) % m) ((x1 * y3 + x2 * y6 + x3 * y9) % m) ((x4 * y1 + x5 * y4 + x6 * y7) % m) ((x4 * y2 + x5 * y5 + x6 * y8) % m) ((x4 * y3 + x5 * y6 + x6 * y9) % m) ((x7 * y1 + x8 * y4 + x9 * y7) % m) ((x7 * y2 + x8 * y5 + x9 * y8) % m) ((x7 * y3 + x8 * y6 + x9 * y9) % m)
/-- the product's turn by the prime: rows, mine, yours -/
theorem left_prod {m a b c d a2 b2 c2 d2 p q r s : Int} (hm : Five m) (H : Pr a b c d a2 b2 c2 d2 p q r s) (Q : Qd a b c d) (Q2 : Qd a2 b2 c2 d2) (Q3 : Qd p q r s) (n1 : (a * a + b * b + c * c + d * d) % m ≠ 0) (n2 : (a2 * a2 + b2 * b2 + c2 * c2 + d2 * d2) % m ≠ 0) :
    ∃ x1 x2 x3 x4 x5 x6 x7 x8 x9 y1 y2 y3 y4 y5 y6 y7 y8 y9 : Int, (∀ z ∈ [x1, x2, x3, x4, x5, x6, x7, x8, x9, y1, y2, y3, y4, y5, y6, y7, y8, y9], Bd 10 z) ∧ m_Lleft [.int m, T a b c d] = .ret (r33 x1 x2 x3 x4 x5 x6 x7 x8 x9) ∧ m_Lleft [.int m, T a2 b2 c2 d2] = .ret (r33 y1 y2 y3 y4 y5 y6 y7 y8 y9) ∧
      m_Lleft [.int m, T p q r s] = .ret (due33 x1 x2 x3 x4 x5 x6 x7 x8 x9 y1 y2 y3 y4 y5 y6 y7 y8 y9 m) := by
  have n3 := prod_S hm H n1 n2
  obtain ⟨u, hu, e1⟩ := left_T hm Q (NZ_of n1) n1
  obtain ⟨w, hw, e2⟩ := left_T hm Q2 (NZ_of n2) n2
  obtain ⟨v, hv, e3⟩ := left_T hm Q3 (NZ_of n3) n3
  have hq : 3 ≤ m ∧ m ≤ 13 := by rcases hm with h | h | h | h | h <;> omega
  have hvv : 4 * u * w % m = v % m := by
    refine inv_cg (S := p * p + q * q + r * r + s * s) ?_ hv rfl
    have h := pr_sz H
    have h2 : 4 * u * w * (p * p + q * q + r * r + s * s) = u * (a * a + b * b + c * c + d * d) * (w * (a2 * a2 + b2 * b2 + c2 * c2 + d2 * d2)) := by
      have : 4 * u * w * (p * p + q * q + r * r + s * s) = u * w * (4 * (p * p + q * q + r * r + s * s)) := by clear h e1 e2 e3 hu hw hv n1 n2 n3 H; grind
      rw [this, h]
      clear h e1 e2 e3 hu hw hv n1 n2 n3 H this; grind
    rw [h2]
    have one : 1 % m = 1 := Int.emod_eq_of_lt (by omega) (by omega)
    have := cg_mul (show u * (a * a + b * b + c * c + d * d) % m = 1 % m by rw [hu, one]) (show w * (a2 * a2 + b2 * b2 + c2 * c2 + d2 * d2) % m = 1 % m by rw [hw, one])
    rw [this]; exact one
  refine ⟨_, _, _, _, _, _, _, _, _, _, _, _, _, _, _, _, _, _, ?_, e1, e2, ?_⟩
  · intro z hz
    have bz : ∀ x : Int, Bd 10 (x % m) := fun x => ⟨by
      have := Int.emod_nonneg x (show m ≠ 0 by omega)
      have := Int.emod_lt_of_pos x (show 0 < m by omega)
      omega⟩
    simp only [List.mem_cons, List.not_mem_nil, or_false] at hz
    rcases hz with h | h | h | h | h | h | h | h | h | h | h | h | h | h | h | h | h | h <;> rw [h] <;> exact bz _
  · rw [e3]
    unfold lf due33
    rw [due_one (pr1 H) hvv, due_one (pr2 H) hvv, due_one (pr3 H) hvv, due_one (pr4 H) hvv, due_one (pr5 H) hvv, due_one (pr6 H) hvv, due_one (pr7 H) hvv, due_one (pr8 H) hvv, due_one (pr9 H) hvv]
end Fw

set_option autoImplicit false
set_option linter.all false
set_option maxRecDepth 100000
set_option exponentiation.threshold 2000
namespace Fw
open PySem Fs
theorem seq_nx {s1 s2 : DS} {env env' : Fs.Env} {P : Out → Prop} (h : s1 env = .ret (.nx env')) (k : (s2 env').AllS P) : (dSeq s1 s2 env).AllS P := by
  rw [r_seq, h]; exact k
theorem seq_all {s1 s2 : DS} {env : Fs.Env} {P : Out → Prop} (R : Fs.Env → Prop) (h : (s1 env).AllS fun o => ∃ e, o = .nx e ∧ R e) (k : ∀ e, R e → (s2 e).AllS P) : (dSeq s1 s2 env).AllS P := by
  rw [r_seq, Cm.alls_bind]
  exact h.mono fun o ⟨e, he, hr⟩ => by subst he; exact k e hr
theorem set_all {i : Nat} {f : DE} {env : Fs.Env} {R : Fs.Env → Prop} (h : (f env).AllS fun d => R (env.set i (.val d))) : (dSet i f env).AllS fun o => ∃ e, o = .nx e ∧ R e := by
  rw [r_set, Cm.alls_bind]
  exact h.mono fun d hd => ⟨_, rfl, hd⟩
theorem forGo_all {g : DTg} {s : DS} {Inv : Fs.Env → Prop} {P : D → Prop} : ∀ {items : List D} {env : Fs.Env}, Inv env → (∀ d ∈ items, ∀ e, Inv e → (g d e).AllS fun e1 => (s e1).AllS fun o => match o with | .nx e => Inv e | .ct e => Inv e | .bk e => Inv e | .rt d => P d) →
    (forGo g s items env).AllS fun o => match o with | .nx e => Inv e | .rt d => P d | _ => False
  | [], env, h, _ => ⟨h⟩
  | d :: ds, env, h, k => by
    rw [r_for1, Cm.alls_bind]
    refine (k d List.mem_cons_self env h).mono fun e1 h1 => ?_
    rw [Cm.alls_bind]
    refine h1.mono fun o ho => ?_
    cases o with
    | nx e => exact forGo_all ho fun d hd => k d (List.mem_cons_of_mem _ hd)
    | ct e => exact forGo_all ho fun d hd => k d (List.mem_cons_of_mem _ hd)
    | bk e => exact ⟨ho⟩
    | rt d => exact ⟨ho⟩
theorem lcGo_each {g : DTg} {t : DT} {f : DE} {env : Fs.Env} (R : D → Prop) : ∀ {items : List D}, (∀ d ∈ items, ∃ e1, g d env = .ret e1 ∧ t e1 = .ret true ∧ (f e1).AllS fun y => flatD y = true ∧ R y) → (lcGo g t f items env).AllS fun ys => ys.length = items.length ∧ ∀ y ∈ ys, R y
  | [], _ => ⟨⟨rfl, fun y hy => by cases hy⟩⟩
  | d :: ds, h => by
    obtain ⟨e1, h1, h2, h3⟩ := h d List.mem_cons_self
    rw [r_lc1, h1, Cm.ret_bind, h2, Cm.ret_bind, if_pos rfl, Cm.alls_bind]
    refine h3.mono fun y ⟨hy, hr⟩ => ?_
    rw [if_pos hy, Cm.alls_bind]
    refine (lcGo_each R (items := ds) fun d hd => h d (List.mem_cons_of_mem _ hd)).mono fun ys ⟨l, hys⟩ => ⟨by simp [l], fun z hz => ?_⟩
    rcases List.mem_cons.mp hz with rfl | hz
    · exact hr
    · exact hys z hz
theorem call1 (g : List D → Cm D) {f : DE} {env : Fs.Env} {d : D} (h : f env = .ret d) : dCallN 1 g (dCons f dNil) env = g [d] := by simp [h]
theorem call2 (g : List D → Cm D) {f f2 : DE} {env : Fs.Env} {d d2 : D} (h : f env = .ret d) (h2 : f2 env = .ret d2) : dCallN 2 g (dCons f (dCons f2 dNil)) env = g [d, d2] := by simp [h, h2]
theorem call3 (g : List D → Cm D) {f f2 f3 : DE} {env : Fs.Env} {d d2 d3 : D} (h : f env = .ret d) (h2 : f2 env = .ret d2) (h3 : f3 env = .ret d3) : dCallN 3 g (dCons f (dCons f2 (dCons f3 dNil))) env = g [d, d2, d3] := by simp [h, h2, h3]
theorem ev_take (n : Int) (h : 0 < n) (h2 : n.natAbs.log2 < 9000) : m_Ltake [drwT, .int n] = .ask n.toNat fun r => .ret (.int (r : Int)) := if_pos ⟨rfl, h, h2⟩
theorem take_all {n : Int} {P : D → Prop} (h : 0 < n) (h2 : n.natAbs.log2 < 9000) (k : ∀ i : Int, 0 ≤ i → i < n → P (.int i)) : (m_Ltake [drwT, .int n]).AllS P := by
  rw [ev_take n h h2]
  exact ⟨fun r hr => k r (by omega) (by omega)⟩
theorem pick_all {ds : List D} {P : D → Prop} (h : 0 < ds.length) (h2 : ds.length.log2 < 9000) (k : ∀ d ∈ ds, P d) : (m_Lpick [drwT, .list ds]).AllS P := by
  have e : m_Lpick [drwT, .list ds] = (m_Ltake [drwT, .int ds.length]).bind fun y => vIx (.list ds) y := by simp [m_Lpick, S_Lpick]
  rw [e, Cm.alls_bind]
  refine take_all (by omega) (by simpa using h2) fun i h0 h1 => ?_
  have hi : i.toNat < ds.length := by omega
  have : L2.atI ds i = some ds[i.toNat] := by
    have := at_nat ds i.toNat _ (List.getElem?_eq_getElem hi)
    rwa [Int.toNat_of_nonneg h0] at this
  rw [r_ix_l, this]
  exact ⟨k _ (List.getElem_mem hi)⟩
/-- a drawn quad -/
structure Gq (a b c d : Int) : Prop where
  la : -9 ≤ a ∧ a ≤ 9
  lb : -9 ≤ b ∧ b ≤ 9
  lc : -9 ≤ c ∧ c ≤ 9
  ld : -9 ≤ d ∧ d ≤ 9
  hb : (b - a) % 2 = 0
  hc : (c - a) % 2 = 0
  hd : (d - a) % 2 = 0
theorem bd9 {a : Int} (h : -9 ≤ a ∧ a ≤ 9) : Bd 50 a := ⟨by omega⟩
theorem Gq.Qd {a b c d : Int} (G : Gq a b c d) : Qd a b c d := ⟨(bd9 G.la).mono (by decide), (bd9 G.lb).mono (by decide), (bd9 G.lc).mono (by decide), (bd9 G.ld).mono (by decide), G.hb, G.hc, G.hd⟩
theorem quad_all : (m_Lquad [drwT]).AllS fun x => ∃ a b c d, x = q4 a b c d ∧ Gq a b c d := by
  show ((S_Lquad [.val drwT, .no, .no]).bind outD).AllS _
  rw [Cm.alls_bind]
  unfold S_Lquad
  refine seq_all (fun e => ∃ k : Int, 0 ≤ k ∧ k < 2 ∧ e = [.val drwT, .val (.int k), .no]) (set_all ?_) fun e ⟨k, k0, k2, he⟩ => ?_
  · rw [call2 m_Ltake (d := drwT) (d2 := .int 2) rfl rfl]
    exact take_all (by decide) (by decide) fun i h0 h1 => ⟨i, h0, h1, rfl⟩
  · subst he
    rw [r_ret, Cm.alls_bind, r_call, Cm.alls_bind, r_cons, Cm.alls_bind, r_onlyL, Cm.alls_bind, r_lc, Cm.alls_bind]
    show Cm.AllS _ (Cm.ret (rng 0 4))
    rw [Cm.alls_ret, if_pos (by decide), Cm.alls_bind]
    have key : (lcGo (gN 2) dYes (dOp vAdd (dOp vMul (dCst (.int 2)) (dOp vSub (dCallN 2 m_Ltake (dCons (dVar 0) (dCons (dCst (.int 9)) dNil))) (dCst (.int 4)))) (dPeek 1)) (rng 0 4) [.val drwT, .val (.int k), .no]).AllS fun ys => ys.length = (rng 0 4).length ∧ ∀ y ∈ ys, ∃ i : Int, 0 ≤ i ∧ i < 9 ∧ y = .int (2 * (i - 4) + k) := by
      refine lcGo_each _ fun d hd => ⟨_, rfl, rfl, ?_⟩
      rw [r_op, Cm.alls_bind, r_op, r_cst, Cm.ret_bind, Cm.alls_bind, r_op, Cm.alls_bind, call2 m_Ltake (d := drwT) (d2 := .int 9) rfl rfl]
      refine take_all (by decide) (by decide) fun i h0 h1 => ?_
      haveI : Bd 10 i := ⟨by omega⟩
      simp [vMul_a]
      exact ⟨i, h0, h1, rfl⟩
    refine key.mono fun ys ⟨hl, hy⟩ => ?_
    match ys, hl with
    | [y1, y2, y3, y4], _ =>
      obtain ⟨i1, _, _, rfl⟩ := hy y1 (by simp)
      obtain ⟨i2, _, _, rfl⟩ := hy y2 (by simp)
      obtain ⟨i3, _, _, rfl⟩ := hy y3 (by simp)
      obtain ⟨i4, _, _, rfl⟩ := hy y4 (by simp)
      exact ⟨_, _, _, _, rfl, ⟨by omega, by omega⟩, ⟨by omega, by omega⟩, ⟨by omega, by omega⟩, ⟨by omega, by omega⟩, by omega, by omega, by omega⟩
theorem some_all : (m_Lsome_quad [drwT]).AllS fun x => ∃ a b c d, x = q4 a b c d ∧ Gq a b c d := by
  show ((S_Lsome_quad [.val drwT, .no]).bind outD).AllS _
  rw [Cm.alls_bind]
  unfold S_Lsome_quad
  refine seq_all (fun e => ∃ a b c d, Gq a b c d ∧ e = [.val drwT, .val (q4 a b c d)]) ?_ ?_
  · refine set_all ?_
    rw [call1 m_Lquad (d := drwT) rfl]
    exact quad_all.mono fun x ⟨a, b, c, d, hx, G⟩ => ⟨a, b, c, d, G, by subst hx; rfl⟩
  · intro e he
    obtain ⟨a, b, c, d, G, he⟩ := he
    subst he
    have e0 : vNe (q4 a b c d) (q4 0 0 0 0) = .ret (.bool (!PyData.eqv (q4 a b c d) (q4 0 0 0 0))) := vNe_eqv (sh_q4 _ _ _ _) (sh_q4 _ _ _ _) rfl rfl
    simp [e0]
    split
    · exact ⟨a, b, c, d, rfl, G⟩
    · exact ⟨2, 2, 0, 0, rfl, by constructor <;> decide⟩
theorem ev_Lsize (a b c d : Int) (G : Gq a b c d) : m_Lsize [q4 a b c d] = .ret (.int ((a * a + b * b + c * c + d * d) / 4)) := by
  haveI := bd9 G.la
  haveI := bd9 G.lb
  haveI := bd9 G.lc
  haveI := bd9 G.ld
  simp [m_Lsize, S_Lsize, vMul_a]
  congr 1
  omega
theorem sz4 {a b c d : Int} (G : Gq a b c d) : ∃ k, a * a + b * b + c * c + d * d = 4 * k := by
  obtain ⟨b1, rfl⟩ := par G.hb
  obtain ⟨c1, rfl⟩ := par G.hc
  obtain ⟨d1, rfl⟩ := par G.hd
  clear G
  exact ⟨a * a + a * b1 + b1 * b1 + a * c1 + c1 * c1 + a * d1 + d1 * d1, by grind⟩
theorem net_all {q : Int} (hq : Five q) : (m_Lnet_quad [drwT, .int q]).AllS fun x => ∃ a b c d, x = q4 a b c d ∧ Gq a b c d ∧ (a * a + b * b + c * c + d * d) % q ≠ 0 := by
  have q0 : 3 ≤ q ∧ q ≤ 13 ∧ q % 2 = 1 := by rcases hq with h | h | h | h | h <;> omega
  show ((S_Lnet_quad [.val drwT, .val (.int q), .no, .no]).bind outD).AllS _
  rw [Cm.alls_bind]
  unfold S_Lnet_quad
  rw [r_seq, Cm.alls_bind, r_for]
  show Cm.AllS _ (forGo _ _ (rng 0 20) _)
  refine Cm.AllS.mono ?_ (forGo_all (Inv := fun e => ∃ x y, e = [.val drwT, .val (.int q), x, y]) (P := fun x => ∃ a b c d, x = q4 a b c d ∧ Gq a b c d ∧ (a * a + b * b + c * c + d * d) % q ≠ 0) ⟨_, _, rfl⟩ fun d hd e ⟨x, y, he⟩ => ?_)
  · intro o ho
    cases o with
    | rt d => exact ⟨⟨ho⟩⟩
    | nx e =>
      simp
      exact ⟨2, 0, 0, 0, ⟨rfl, rfl, rfl, rfl⟩, by constructor <;> decide, by rcases hq with rfl | rfl | rfl | rfl | rfl <;> decide⟩
    | bk e => exact ho.elim
    | ct e => exact ho.elim
  · subst he
    show Cm.AllS _ (Cm.ret [.val drwT, .val (.int q), .val d, y])
    rw [Cm.alls_ret]
    refine seq_all (fun e => ∃ a b c d', Gq a b c d' ∧ e = [.val drwT, .val (.int q), .val d, .val (q4 a b c d')]) (set_all ?_) fun e ⟨a, b, c, d', G, he⟩ => ?_
    · rw [call1 m_Lsome_quad (d := drwT) rfl]
      exact some_all.mono fun x ⟨a, b, c, d', hx, G⟩ => ⟨a, b, c, d', G, by subst hx; rfl⟩
    · subst he
      simp [ev_Lsize a b c d' G, show 0 < q by omega]
      split
      · exact ⟨_, _, rfl⟩
      · rename_i hz
        refine ⟨a, b, c, d', rfl, G, fun h0 => hz ?_⟩
        obtain ⟨k, hk⟩ := sz4 G
        rw [hk] at h0 ⊢
        rw [show 4 * k / 4 = k by omega]
        have := can4 (x := k) (y := 0) q0.2.2 (by rw [h0]; simp)
        simpa using this
end Fw

set_option autoImplicit false
set_option linter.all false
set_option maxRecDepth 100000
set_option exponentiation.threshold 2000
set_option maxHeartbeats 1000000
namespace Fw
open PySem Fs
abbrev en (A : List D) (x2 x3 x4 x5 x6 x7 x8 x9 x10 x11 x12 x13 x14 x15 x16 x17 : Slot) : Fs.Env := [.val (.list A), .val drwT, x2, x3, x4, x5, x6, x7, x8, x9, x10, x11, x12, x13, x14, x15, x16, x17]
theorem par_all {i j : Nat} {f1 f2 : DE} {env : Fs.Env} {R : Fs.Env → Prop} (h : (f1 env).AllS fun d1 => (f2 env).AllS fun d2 => R ((env.set i (.val d1)).set j (.val d2))) : (dPar i j f1 f2 env).AllS fun o => ∃ e, o = .nx e ∧ R e := by
  rw [r_par, Cm.alls_bind]
  refine h.mono fun d1 h1 => ?_
  rw [Cm.alls_bind]
  exact h1.mono fun d2 h2 => ⟨_, rfl, h2⟩
@[simp] theorem r_rng1 (fs : DEs) (env : Fs.Env) : dRng1 fs env = (fs env).bind fun ds => match ds with
  | [.int j] => if -4611686018427387904 ≤ j ∧ j < 4611686018427387904 then .ret (rng 0 j.toNat) else .bad
  | _ => .bad := by unfold dRng1; rfl
theorem rng03 : rng 0 3 = [.int 0, .int 1, .int 2] := rfl
theorem low_all {q e f a b c d : Int} (M : Mk q e f) : ∃ l1 l2 l3 l4, m_quad_of_table [.int q, tb q e f a b c d] = .ret (q4 l1 l2 l3 l4) ∧ Qd l1 l2 l3 l4 ∧ l1 % q = a % q ∧ l2 % q = b % q ∧ l3 % q = c % q ∧ l4 % q = d % q := by
  have g := M.g
  have o := M.o
  obtain ⟨c1, c2, c3, c4⟩ := low_cg (a := a) (b := b) (c := c) (d := d) M
  refine ⟨_, _, _, _, ?_, low_Qd g M.l o, c1, c2, c3, c4⟩
  unfold tb
  exact ev_low M (hf_rng g o) (hf_rng g o) (hf_rng g o) (hf_rng g o)
theorem plus_all {q i a b c d e f g h : Int} (hq : Five q) (h0 : 0 ≤ i) (h1 : i < 4) (G : Gq a b c d) (G' : Gq e f g h) : ∃ a2 b2 c2 d2, m_plus [q4 a b c d, q4 e f g h, .int (q * (1 + i))] = .ret (q4 a2 b2 c2 d2) ∧ Qd a2 b2 c2 d2 ∧ a2 % q = a % q ∧ b2 % q = b % q ∧ c2 % q = c % q ∧ d2 % q = d % q := by
  have Q := G.Qd
  have Q' := G'.Qd
  haveI := bd9 G.la
  haveI := bd9 G.lb
  haveI := bd9 G.lc
  haveI := bd9 G.ld
  haveI := bd9 G'.la
  haveI := bd9 G'.lb
  haveI := bd9 G'.lc
  haveI := bd9 G'.ld
  haveI bq : Bd 10 q := ⟨by rcases hq with h | h | h | h | h <;> omega⟩
  haveI bi : Bd 10 i := ⟨by omega⟩
  have u1 : Bd 600 (a + q * (1 + i) * e) := Bd.mono inferInstance (by decide)
  have u2 : Bd 600 (b + q * (1 + i) * f) := Bd.mono inferInstance (by decide)
  have u3 : Bd 600 (c + q * (1 + i) * g) := Bd.mono inferInstance (by decide)
  have u4 : Bd 600 (d + q * (1 + i) * h) := Bd.mono inferInstance (by decide)
  have bm : Bd 600 (q * (1 + i)) := Bd.mono inferInstance (by decide)
  have cg : ∀ x y : Int, (x + q * (1 + i) * y) % q = x % q := fun x y => by rw [Int.mul_assoc, Int.add_mul_emod_self_left]
  have hm : ∀ y z : Int, (z - y) % 2 = 0 → (q * (1 + i) * z - q * (1 + i) * y) % 2 = 0 := fun y z h => by
    obtain ⟨k, rfl⟩ := par h
    rw [Int.mul_add, show q * (1 + i) * (2 * k) = 2 * (q * (1 + i) * k) by rw [← Int.mul_assoc, Int.mul_comm (q * (1 + i)) 2, Int.mul_assoc]]
    omega
  have m1 := hm e f G'.hb
  have m2 := hm e g G'.hc
  have m3 := hm e h G'.hd
  have k1 := G.hb
  have k2 := G.hc
  have k3 := G.hd
  have ep := @ev_plus a b c d e f g h (q * (1 + i)) Q.ba Q.bb Q.bc Q.bd Q'.ba Q'.bb Q'.bc Q'.bd bm Q.hb Q.hc Q.hd Q'.hb Q'.hc Q'.hd u1 u2 u3 u4
  refine ⟨_, _, _, _, ep, ⟨u1, u2, u3, u4, ?_, ?_, ?_⟩, cg _ _, cg _ _, cg _ _, cg _ _⟩
  · generalize q * (1 + i) * e = y1 at *
    generalize q * (1 + i) * f = y2 at *
    omega
  · generalize q * (1 + i) * e = y1 at *
    generalize q * (1 + i) * g = y2 at *
    omega
  · generalize q * (1 + i) * e = y1 at *
    generalize q * (1 + i) * h = y2 at *
    omega
theorem many_all {q e f i : Int} (hq : Five q) (M : Mk q e f) (h0 : 0 ≤ i) (h1 : i < q - 1) : m_turn_of [q4 (2 * (1 + i)) 0 0 0] = .ret (T (2 * (1 + i)) 0 0 0) ∧ m_Lleft [.int q, T (2 * (1 + i)) 0 0 0] = .ret (r33 1 0 0 0 1 0 0 0 1) ∧
    m_table_of [.int q, q4 (2 * (1 + i)) 0 0 0] = .ret (q4 (1 + i) 0 0 (1 + i)) := by
  have g := M.g
  have l := M.l
  have o := M.o
  have b : ∀ x : Int, 0 ≤ x → x < 50 → Bd 600 x := fun x h h' => ⟨by
    have h2 : (60 : Nat) < 2 ^ 600 := by decide +kernel
    generalize (2 : Nat) ^ 600 = z at h2 ⊢
    omega⟩
  have Q : Qd (2 * (1 + i)) 0 0 0 := ⟨b _ (by omega) (by omega), b _ (by omega) (by omega), b _ (by omega) (by omega), b _ (by omega) (by omega), by omega, by omega, by omega⟩
  have key : ∀ q : Nat, q ∈ [3, 5, 7, 11, 13] → ∀ r : Nat, r < q → r ≠ 0 → (2 * r) * (2 * r) % q ≠ 0 := by decide
  have hS : (2 * (1 + i) * (2 * (1 + i)) + 0 * 0 + 0 * 0 + 0 * 0) % q ≠ 0 := by
    have hm : ∃ m : Nat, q = m ∧ m ∈ [3, 5, 7, 11, 13] := by
      rcases hq with rfl | rfl | rfl | rfl | rfl
      · exact ⟨3, rfl, by decide⟩
      · exact ⟨5, rfl, by decide⟩
      · exact ⟨7, rfl, by decide⟩
      · exact ⟨11, rfl, by decide⟩
      · exact ⟨13, rfl, by decide⟩
    obtain ⟨m, rfl, hm⟩ := hm
    have := key m hm (1 + i).toNat (by omega) (by omega)
    intro z
    apply this
    have e : ((2 * (1 + i).toNat * (2 * (1 + i).toNat) % m : Nat) : Int) = 0 := by
      rw [Int.natCast_emod, Int.natCast_mul, Int.natCast_mul, Int.toNat_of_nonneg (by omega)]
      simpa using z
    omega
  refine ⟨turn_of_T Q (NZ_of hS), ?_, ?_⟩
  · obtain ⟨v, hv, e⟩ := left_T hq Q (NZ_of hS) hS
    rw [e]
    unfold lf
    simp only [Int.mul_zero, Int.zero_mul, Int.add_zero, Int.sub_zero, Int.sub_self, Int.zero_emod] at hv ⊢
    rw [hv]
  · rw [ev_table M Q]
    unfold tb
    have one : ∀ x : Int, x = 2 * (1 + i) → hf q x = 1 + i := fun x hx => by
      have h2 := hf_two (n := x) g o
      have hr := hf_rng (n := x) g o
      have := can2 o (h2.trans (by rw [hx]))
      rwa [Int.emod_eq_of_lt hr.1 hr.2, Int.emod_eq_of_lt (by omega) (by omega)] at this
    have zero : ∀ x : Int, x = 0 → hf q x = 0 := fun x hx => by subst hx; unfold hf; simp
    rw [one _ (by omega), zero _ (by omega), zero _ (by omega), one _ (by omega)]
end Fw

set_option autoImplicit false
set_option linter.all false
set_option maxRecDepth 100000
set_option exponentiation.threshold 2000
set_option maxHeartbeats 2000000
namespace Fw
open PySem Fs
theorem sh_q (a b c d : Int) : vNe (q4 a b c d) (q4 a b c d) = .ret (.bool false) := vNe_self (sh_q4 _ _ _ _) rfl
theorem sh_r (a b c d e f g h i : Int) : vNe (r33 a b c d e f g h i) (r33 a b c d e f g h i) = .ret (.bool false) := vNe_self (sh_r33 _ _ _ _ _ _ _ _ _) rfl
theorem sh_tb (q e f a b c d : Int) : vNe (tb q e f a b c d) (tb q e f a b c d) = .ret (.bool false) := by unfold tb; exact sh_q _ _ _ _
theorem sh_T (a b c d : Int) : vNe (T a b c d) (T a b c d) = .ret (.bool false) := by unfold T nrm; exact vNe_self (sh_turn _ _ _ _ _ _ _ _ _ _) rfl
def Inv (A : List D) (e : Fs.Env) : Prop := ∃ x2 x3 x4 x5 x6 x7 x8 x9 x10 x11 x12 x13 x14 x15 x16 x17, e = en A x2 x3 x4 x5 x6 x7 x8 x9 x10 x11 x12 x13 x14 x15 x16 x17
theorem asg3 {f1 f2 f3 : DE} {env : Fs.Env} {d1 d2 d3 : D} {i j k : Nat} (h1 : f1 env = .ret d1) (h2 : f2 env = .ret d2) (h3 : f3 env = .ret d3) (g1 : flatD d1 = true) (g2 : flatD d2 = true) (g3 : flatD d3 = true) :
    dAsg (dTupF (dCons f1 (dCons f2 (dCons f3 dNil)))) (gTp 3 (gsCons (gN i) (gsCons (gN j) (gsCons (gN k) gsNil)))) env = .ret (.nx (((env.set i (.val d1)).set j (.val d2)).set k (.val d3))) := by
  simp [h1, h2, h3, g1, g2, g3]
theorem ifs_no {t : DT} {s1 : DS} {E : Fs.Env} (h : t E = .ret false) : dIfS t s1 dSkip E = .ret (.nx E) := by
  rw [r_ifS, h]; rfl
theorem tru_b {f : DE} {E : Fs.Env} {b : Bool} (h : f E = .ret (.bool b)) : dTru f E = .ret b := by rw [r_tru, h]; rfl
theorem or_no {t u : DT} {E : Fs.Env} (h : t E = .ret false) (h2 : u E = .ret false) : dOrT t u E = .ret false := by rw [r_orT, h]; exact h2
theorem op2 {g : D → D → Cm D} {f1 f2 : DE} {E : Fs.Env} {d1 d2 : D} (h : f1 E = .ret d1) (h2 : f2 E = .ret d2) : dOp g f1 f2 E = g d1 d2 := by rw [r_op, h, Cm.ret_bind, h2, Cm.ret_bind]
theorem set_nx {i : Nat} {f : DE} {E : Fs.Env} {d : D} (h : f E = .ret d) : dSet i f E = .ret (.nx (E.set i (.val d))) := by rw [r_set, h]; rfl
abbrev BP (A : List D) (o : Out) : Prop := match o with | .nx e => Inv A e | .ct e => Inv A e | .bk e => Inv A e | .rt d => d = .bool true
theorem body (A : List D) (x2 x3 x4 x5 x6 x7 x8 x9 x10 x11 x12 x13 x14 x15 x16 x17 : Slot) : (B1_law (en A x2 x3 x4 x5 x6 x7 x8 x9 x10 x11 x12 x13 x14 x15 x16 x17)).AllS (BP A) := by
  unfold B1_law
  -- q
  refine seq_all (fun e => ∃ q, Five q ∧ e = en A x2 (.val (.int q)) x4 x5 x6 x7 x8 x9 x10 x11 x12 x13 x14 x15 x16 x17) ?_ ?_
  · refine set_all ?_
    rw [call2 m_Lpick (d := drwT) (d2 := .list [.int 3, .int 5, .int 7, .int 11, .int 13]) rfl rfl]
    refine pick_all (by decide) (by decide) fun d hd => ?_
    simp only [List.mem_cons, List.not_mem_nil, or_false] at hd
    rcases hd with rfl | rfl | rfl | rfl | rfl
    · exact ⟨_, .inl rfl, rfl⟩
    · exact ⟨_, .inr (.inl rfl), rfl⟩
    · exact ⟨_, .inr (.inr (.inl rfl)), rfl⟩
    · exact ⟨_, .inr (.inr (.inr (.inl rfl))), rfl⟩
    · exact ⟨_, .inr (.inr (.inr (.inr rfl))), rfl⟩
  rintro _ ⟨q, hq, rfl⟩
  obtain ⟨e, f, M⟩ := marks_ex hq
  -- quad, more
  refine seq_all (fun E => ∃ a b c d a' b' c' d', Gq a b c d ∧ (a * a + b * b + c * c + d * d) % q ≠ 0 ∧ Gq a' b' c' d' ∧ E = en A x2 (.val (.int q)) (.val (q4 a b c d)) (.val (q4 a' b' c' d')) x6 x7 x8 x9 x10 x11 x12 x13 x14 x15 x16 x17) ?_ ?_
  · refine par_all ?_
    rw [call2 m_Lnet_quad (d := drwT) (d2 := .int q) rfl rfl, call1 m_Lquad (d := drwT) rfl]
    refine (net_all hq).mono fun d1 h1 => quad_all.mono fun d2 h2 => ?_
    obtain ⟨a, b, c, d, rfl, G, hS⟩ := h1
    obtain ⟨a', b', c', d', rfl, G'⟩ := h2
    exact ⟨a, b, c, d, a', b', c', d', G, hS, G', rfl⟩
  rintro _ ⟨a, b, c, d, a', b', c', d', G, hS, G', rfl⟩
  have Q := G.Qd
  have nz := NZ_of hS
  have tq := ev_table M Q
  have uq := turn_of_T Q nz
  -- late
  refine seq_all (fun E => ∃ a2 b2 c2 d2, Qd a2 b2 c2 d2 ∧ a2 % q = a % q ∧ b2 % q = b % q ∧ c2 % q = c % q ∧ d2 % q = d % q ∧ E = en A x2 (.val (.int q)) (.val (q4 a b c d)) (.val (q4 a' b' c' d')) (.val (q4 a2 b2 c2 d2)) x7 x8 x9 x10 x11 x12 x13 x14 x15 x16 x17) ?_ ?_
  · refine set_all ?_
    have e1 : dCallN 3 m_plus (dCons (dVar 4) (dCons (dVar 5) (dCons (dOp vMul (dPeek 3) (dOp vAdd (dCst (.int 1)) (dCallN 2 m_Ltake (dCons (dVar 1) (dCons (dCst (.int 4)) dNil))))) dNil))) (en A x2 (.val (.int q)) (.val (q4 a b c d)) (.val (q4 a' b' c' d')) x6 x7 x8 x9 x10 x11 x12 x13 x14 x15 x16 x17) =
        (m_Ltake [drwT, .int 4]).bind fun y => (vAdd (.int 1) y).bind fun z => (vMul (.int q) z).bind fun w => m_plus [q4 a b c d, q4 a' b' c' d', w] := by
      simp [Cm.bind_assoc]
    rw [e1, Cm.alls_bind]
    refine take_all (by decide) (by decide) fun i h0 h1 => ?_
    haveI bq : Bd 10 q := ⟨by rcases hq with h | h | h | h | h <;> omega⟩
    haveI bi : Bd 10 i := ⟨by omega⟩
    obtain ⟨a2, b2, c2, d2, ep, Q2, k1, k2, k3, k4⟩ := plus_all hq h0 h1 G G'
    rw [r_add, Cm.ret_bind, vMul_a (by decide), Cm.ret_bind, ep, Cm.alls_ret]
    exact ⟨a2, b2, c2, d2, Q2, k1, k2, k3, k4, rfl⟩
  rintro _ ⟨a2, b2, c2, d2, Q2, k1, k2, k3, k4, rfl⟩
  have hS2 : (a2 * a2 + b2 * b2 + c2 * c2 + d2 * d2) % q ≠ 0 := by rw [(cg_polys k1 k2 k3 k4).1]; exact hS
  have nz2 := NZ_of hS2
  -- late == nought?
  have e0 : vEq (q4 a2 b2 c2 d2) (q4 0 0 0 0) = .ret (.bool false) := by
    rw [vEq_eqv (sh_q4 _ _ _ _) (sh_q4 _ _ _ _) rfl rfl]
    simp only [PyData.eqv, PyData.eqvAll, Bool.and_true]
    rw [show (a2 == 0 && (b2 == 0 && (c2 == 0 && d2 == 0))) = false from nz2]
  refine seq_nx (env' := en A x2 (.val (.int q)) (.val (q4 a b c d)) (.val (q4 a' b' c' d')) (.val (q4 a2 b2 c2 d2)) x7 x8 x9 x10 x11 x12 x13 x14 x15 x16 x17) (by simp [e0]) ?_
  -- tables, turns of late
  have t2 := ev_table M Q2
  rw [tb_cg (e := e) (f := f) k1 k2 k3 k4] at t2
  have u2 := turn_of_T Q2 nz2
  obtain ⟨y, ys, yf, l2, lq⟩ := left_cg hq Q2 nz2 Q nz hS2 k1 k2 k3 k4
  have ny := vNe_self ys yf
  refine seq_nx (env' := en A x2 (.val (.int q)) (.val (q4 a b c d)) (.val (q4 a' b' c' d')) (.val (q4 a2 b2 c2 d2)) x7 x8 x9 x10 x11 x12 x13 x14 x15 x16 x17) (by simp [tq, t2, sh_tb, uq, u2, l2, lq, ny]) ?_
  -- low
  obtain ⟨l1', l2', l3', l4', lo, Q3, g1, g2, g3, g4⟩ := low_all (a := a) (b := b) (c := c) (d := d) M
  refine seq_nx (env' := en A x2 (.val (.int q)) (.val (q4 a b c d)) (.val (q4 a' b' c' d')) (.val (q4 a2 b2 c2 d2)) (.val (q4 l1' l2' l3' l4')) x8 x9 x10 x11 x12 x13 x14 x15 x16 x17) (by simp [tq, lo]) ?_
  have hS3 : (l1' * l1' + l2' * l2' + l3' * l3' + l4' * l4') % q ≠ 0 := by rw [(cg_polys g1 g2 g3 g4).1]; exact hS
  have u3 := turn_of_T Q3 (NZ_of hS3)
  obtain ⟨z, zs, zf, l3, lq3⟩ := left_cg hq Q3 (NZ_of hS3) Q nz hS3 g1 g2 g3 g4
  have nz3 := vNe_self zs zf
  refine seq_nx (env' := en A x2 (.val (.int q)) (.val (q4 a b c d)) (.val (q4 a' b' c' d')) (.val (q4 a2 b2 c2 d2)) (.val (q4 l1' l2' l3' l4')) x8 x9 x10 x11 x12 x13 x14 x15 x16 x17) (by simp [uq, u3, l3, lq3, nz3]) ?_
  clear l2 lq l3 lq3 ny nz3
  -- other
  refine seq_all (fun E => ∃ a4 b4 c4 d4, Gq a4 b4 c4 d4 ∧ (a4 * a4 + b4 * b4 + c4 * c4 + d4 * d4) % q ≠ 0 ∧ E = en A x2 (.val (.int q)) (.val (q4 a b c d)) (.val (q4 a' b' c' d')) (.val (q4 a2 b2 c2 d2)) (.val (q4 l1' l2' l3' l4')) (.val (q4 a4 b4 c4 d4)) x9 x10 x11 x12 x13 x14 x15 x16 x17) ?_ ?_
  · refine set_all ?_
    rw [call2 m_Lnet_quad (d := drwT) (d2 := .int q) rfl rfl]
    refine (net_all hq).mono fun d1 h1 => ?_
    obtain ⟨a4, b4, c4, d4, rfl, G4, hS4⟩ := h1
    exact ⟨a4, b4, c4, d4, G4, hS4, rfl⟩
  rintro _ ⟨a4, b4, c4, d4, G4, hS4, rfl⟩
  have Q4 := G4.Qd
  have nz4 := NZ_of hS4
  -- both
  obtain ⟨p, q', r, s, H, Qb, pe⟩ := @prodQ a b c d a4 b4 c4 d4 (bd9 G.la) (bd9 G.lb) (bd9 G.lc) (bd9 G.ld) (bd9 G4.la) (bd9 G4.lb) (bd9 G4.lc) (bd9 G4.ld) G.hb G.hc G.hd G4.hb G4.hc G4.hd
  have nzb := NZ_of (prod_S hq H hS hS4)
  refine seq_nx (env' := en A x2 (.val (.int q)) (.val (q4 a b c d)) (.val (q4 a' b' c' d')) (.val (q4 a2 b2 c2 d2)) (.val (q4 l1' l2' l3' l4')) (.val (q4 a4 b4 c4 d4)) (.val (q4 p q' r s)) x10 x11 x12 x13 x14 x15 x16 x17) (by simp [pe]) ?_
  have ub := turn_of_T Qb nzb
  have u4 := turn_of_T Q4 nz4
  have tb1 := ev_table M Qb
  have t4 := ev_table M Q4
  have th := tb_then M H
  have tt := then_T Q Q4 Qb nz nz4 H
  obtain ⟨X1, X2, X3, X4, X5, X6, X7, X8, X9, Y1, Y2, Y3, Y4, Y5, Y6, Y7, Y8, Y9, bds, lx, ly, lb⟩ := left_prod hq H Q Q4 Qb hS hS4
  -- rows, mine, yours
  have E1 := (call2 m_Lleft (env := en A x2 (.val (.int q)) (.val (q4 a b c d)) (.val (q4 a' b' c' d')) (.val (q4 a2 b2 c2 d2)) (.val (q4 l1' l2' l3' l4')) (.val (q4 a4 b4 c4 d4)) (.val (q4 p q' r s)) x10 x11 x12 x13 x14 x15 x16 x17) (f := dVar 3) (f2 := dCallN 1 m_turn_of (dCons (dVar 9) dNil)) rfl ((call1 m_turn_of rfl).trans ub)).trans lb
  have E2 := (call2 m_Lleft (env := en A x2 (.val (.int q)) (.val (q4 a b c d)) (.val (q4 a' b' c' d')) (.val (q4 a2 b2 c2 d2)) (.val (q4 l1' l2' l3' l4')) (.val (q4 a4 b4 c4 d4)) (.val (q4 p q' r s)) x10 x11 x12 x13 x14 x15 x16 x17) (f := dVar 3) (f2 := dCallN 1 m_turn_of (dCons (dVar 4) dNil)) rfl ((call1 m_turn_of rfl).trans uq)).trans lx
  have E3 := (call2 m_Lleft (env := en A x2 (.val (.int q)) (.val (q4 a b c d)) (.val (q4 a' b' c' d')) (.val (q4 a2 b2 c2 d2)) (.val (q4 l1' l2' l3' l4')) (.val (q4 a4 b4 c4 d4)) (.val (q4 p q' r s)) x10 x11 x12 x13 x14 x15 x16 x17) (f := dVar 3) (f2 := dCallN 1 m_turn_of (dCons (dVar 8) dNil)) rfl ((call1 m_turn_of rfl).trans u4)).trans ly
  refine seq_nx (env' := en A x2 (.val (.int q)) (.val (q4 a b c d)) (.val (q4 a' b' c' d')) (.val (q4 a2 b2 c2 d2)) (.val (q4 l1' l2' l3' l4')) (.val (q4 a4 b4 c4 d4)) (.val (q4 p q' r s)) (.val (due33 X1 X2 X3 X4 X5 X6 X7 X8 X9 Y1 Y2 Y3 Y4 Y5 Y6 Y7 Y8 Y9 q)) (.val (r33 X1 X2 X3 X4 X5 X6 X7 X8 X9)) (.val (r33 Y1 Y2 Y3 Y4 Y5 Y6 Y7 Y8 Y9)) x13 x14 x15 x16 x17) (asg3 E1 E2 E3 rfl rfl rfl) ?_
  clear E1 E2 E3
  -- due
  refine seq_nx (env' := en A x2 (.val (.int q)) (.val (q4 a b c d)) (.val (q4 a' b' c' d')) (.val (q4 a2 b2 c2 d2)) (.val (q4 l1' l2' l3' l4')) (.val (q4 a4 b4 c4 d4)) (.val (q4 p q' r s)) (.val (due33 X1 X2 X3 X4 X5 X6 X7 X8 X9 Y1 Y2 Y3 Y4 Y5 Y6 Y7 Y8 Y9 q)) (.val (r33 X1 X2 X3 X4 X5 X6 X7 X8 X9)) (.val (r33 Y1 Y2 Y3 Y4 Y5 Y6 Y7 Y8 Y9)) (.val (due33 X1 X2 X3 X4 X5 X6 X7 X8 X9 Y1 Y2 Y3 Y4 Y5 Y6 Y7 Y8 Y9 q)) x14 x15 x16 x17) (by
    have q0 : 0 < q := by rcases hq with h | h | h | h | h <;> omega
    simp only [List.forall_mem_cons] at bds
    obtain ⟨i1, i2, i3, i4, i5, i6, i7, i8, i9, j1, j2, j3, j4, j5, j6, j7, j8, j9, _⟩ := bds
    simp [rng03, vMul_a, due33, q0, Int.add_assoc]) ?_
  -- rows != due ..
  have nd : vNe (due33 X1 X2 X3 X4 X5 X6 X7 X8 X9 Y1 Y2 Y3 Y4 Y5 Y6 Y7 Y8 Y9 q) (due33 X1 X2 X3 X4 X5 X6 X7 X8 X9 Y1 Y2 Y3 Y4 Y5 Y6 Y7 Y8 Y9 q) = .ret (.bool false) := sh_r _ _ _ _ _ _ _ _ _
  refine seq_nx (env' := en A x2 (.val (.int q)) (.val (q4 a b c d)) (.val (q4 a' b' c' d')) (.val (q4 a2 b2 c2 d2)) (.val (q4 l1' l2' l3' l4')) (.val (q4 a4 b4 c4 d4)) (.val (q4 p q' r s)) (.val (due33 X1 X2 X3 X4 X5 X6 X7 X8 X9 Y1 Y2 Y3 Y4 Y5 Y6 Y7 Y8 Y9 q)) (.val (r33 X1 X2 X3 X4 X5 X6 X7 X8 X9)) (.val (r33 Y1 Y2 Y3 Y4 Y5 Y6 Y7 Y8 Y9)) (.val (due33 X1 X2 X3 X4 X5 X6 X7 X8 X9 Y1 Y2 Y3 Y4 Y5 Y6 Y7 Y8 Y9 q)) x14 x15 x16 x17) (by
    simp [nd, tb1, tq, t4, th, sh_tb, ub, u4, uq, tt, sh_T]) ?_
  generalize (Slot.val (due33 X1 X2 X3 X4 X5 X6 X7 X8 X9 Y1 Y2 Y3 Y4 Y5 Y6 Y7 Y8 Y9 q)) = w10
  generalize (Slot.val (r33 X1 X2 X3 X4 X5 X6 X7 X8 X9)) = w11
  generalize (Slot.val (r33 Y1 Y2 Y3 Y4 Y5 Y6 Y7 Y8 Y9)) = w12
  generalize (Slot.val (q4 a b c d)) = w4
  generalize (Slot.val (q4 a' b' c' d')) = w5
  generalize (Slot.val (q4 a2 b2 c2 d2)) = w6
  generalize (Slot.val (q4 l1' l2' l3' l4')) = w7
  generalize (Slot.val (q4 a4 b4 c4 d4)) = w8
  generalize (Slot.val (q4 p q' r s)) = w9
  -- many
  refine seq_all (fun E => ∃ i, 0 ≤ i ∧ i < q - 1 ∧ E = en A x2 (.val (.int q)) w4 w5 w6 w7 w8 w9 w10 w11 w12 w10 x14 x15 x16 (.val (.int (1 + i)))) ?_ ?_
  · refine set_all ?_
    rw [r_op, r_cst, Cm.ret_bind, Cm.alls_bind, call2 m_Ltake (d := drwT) (d2 := .int (q - 1)) rfl rfl]
    refine take_all (by rcases hq with h | h | h | h | h <;> omega) (by rcases hq with rfl | rfl | rfl | rfl | rfl <;> decide) fun i h0 h1 => ?_
    rw [r_add, Cm.alls_ret]
    exact ⟨i, h0, h1, rfl⟩
  rintro _ ⟨i, h0, h1, rfl⟩
  obtain ⟨f1, f2, f3⟩ := many_all hq M h0 h1
  haveI bi : Bd 10 i := ⟨by rcases hq with h | h | h | h | h <;> omega⟩
  have last : ∀ (t : DT) (s1 s2 : DS) (E : Fs.Env), t E = .ret false → s2 E = .ret (.nx E) → Inv A E → (dIfS t s1 s2 E).AllS (BP A) := by
    intro t s1 s2 E h h' hi
    rw [r_ifS, h, Cm.ret_bind]
    simp only [Bool.false_eq_true, if_false]
    rw [h', Cm.alls_ret]
    exact hi
  refine last _ _ _ _ ?_ rfl ⟨_, _, _, _, _, _, _, _, _, _, _, _, _, _, _, _, rfl⟩
  simp [vMul_a, f1, f2, f3, sh_r, sh_q]
theorem math : ∀ ns : List Int, ns.length ≤ 63 → (S_law (env_law ns)).All (fun o => o = .rt (.bool true)) := by
  intro ns hn
  refine Cm.AllS.h ?_
  have he : env_law ns = en (ns.map .int) .no .no .no .no .no .no .no .no .no .no .no .no .no .no .no .no := rfl
  rw [he]
  unfold S_law
  rw [r_seq, Cm.alls_bind, r_for]
  have hr : ∃ K, dRng1 (dCons (dOp vAdd (dCst (.int 3)) (dCall cMin2 (dCons (dCall cLen (dCons (dPeek 0) dNil)) (dCons (dCst (.int 6)) dNil)))) dNil) (en (ns.map .int) .no .no .no .no .no .no .no .no .no .no .no .no .no .no .no .no) = .ret (rng 0 K) := by
    refine ⟨_, if_pos (show -4611686018427387904 ≤ ((3 : Int) + (if (6:Int) < ((ns.map PyData.int).length : Int) then 6 else ((ns.map PyData.int).length : Int))) ∧ ((3 : Int) + (if (6:Int) < ((ns.map PyData.int).length : Int) then 6 else ((ns.map PyData.int).length : Int))) < 4611686018427387904 from ?_)⟩
    rw [List.length_map]
    split <;> omega
  obtain ⟨K, hK⟩ := hr
  rw [hK, Cm.ret_bind]
  refine Cm.AllS.mono ?_ (forGo_all (Inv := Inv (ns.map .int)) (P := fun d => d = .bool true) ⟨_, _, _, _, _, _, _, _, _, _, _, _, _, _, _, _, rfl⟩ fun d hd E hE => ?_)
  · intro o ho
    cases o with
    | rt d => rw [Cm.alls_ret]; exact congrArg Out.rt ho
    | nx e =>
      show Cm.AllS _ (dRet (dCst (.bool true)) e)
      rw [r_ret, r_cst, Cm.ret_bind, Cm.alls_ret]
    | bk e => exact ho.elim
    | ct e => exact ho.elim
  · obtain ⟨x2, x3, x4, x5, x6, x7, x8, x9, x10, x11, x12, x13, x14, x15, x16, x17, rfl⟩ := hE
    rw [r_gN, Cm.alls_ret]
    exact body (ns.map .int) (.val d) x3 x4 x5 x6 x7 x8 x9 x10 x11 x12 x13 x14 x15 x16 x17
end Fw

open PySem PySem.W PyProof.Rows
set_option maxHeartbeats 0 in
theorem PySem.Challenge.cw_foursteps_k82_across_turns_over_a_prime_holds : PySem.Challenge.rw_foursteps_k82_across_turns_over_a_prime.Holds := by
  w_on; o_law; k_head; (case hw => w_witness2)
  k_fill
  refine L2.walk_of (l := PySem.Challenge.rw_foursteps_k82_across_turns_over_a_prime) (n := 63) (k := 6) (x := "script") (CX := fun _ => L2.CX0) (sp := fun w => Fs.spLaw _) rfl (by decide) rfl ⟨rfl, by decide, by decide⟩ (fun w h Y => PySem.W.kIn_of Y) ?F (fun _ _ a ns hl _ hS => ⟨a, ns, rfl, hS, hl, fun _ => rfl⟩) (fun _ _ _ _ _ h => h)
  case F =>
    intro w mg fa h KX G hmg
    refine' Fw.all_mk Fw.math KX G hmg ?a0 ?l0 ?c0 ?k0 ?a1 ?l1 ?c1 ?k1 ?a2 ?l2 ?c2 ?k2 ?a3 ?l3 ?c3 ?k3 ?a4 ?l4 ?c4 ?k4 ?a5 ?l5 ?c5 ?k5 ?a6 ?l6 ?c6 ?k6 ?a7 ?l7 ?c7 ?k7 ?a8 ?l8 ?c8 ?k8 ?a9 ?l9 ?c9 ?k9 ?a10 ?l10 ?c10 ?k10 ?a11 ?l11 ?c11 ?k11 ?a12 ?l12 ?c12 ?k12 ?a13 ?l13 ?c13 ?k13 ?a14 ?l14 ?c14 ?k14 ?a15 ?l15 ?c15 ?k15 ?a16 ?l16 ?c16 ?k16 ?a17 ?l17 ?c17 ?k17 ?a18 ?l18 ?c18 ?k18 ?a19 ?l19 ?c19 ?k19 ?a20 ?l20 ?c20 ?k20 ?a21 ?l21 ?c21 ?k21 ?a22 ?l22 ?c22 ?k22 ?a23 ?l23 ?c23 ?k23 ?a24 ?l24 ?c24 ?k24 ?a25 ?l25 ?c25 ?k25 ?a26 ?l26 ?c26 ?k26 ?a27 ?l27 ?c27 ?k27 ?a28 ?l28 ?c28 ?k28 ?a29 ?l29 ?c29 ?k29 ?a30 ?l30 ?c30 ?k30 ?a31 ?l31 ?c31 ?k31 ?a32 ?l32 ?c32 ?k32 ?a33 ?l33 ?c33 ?k33 ?a34 ?l34 ?c34 ?k34 ?a35 ?l35 ?c35 ?k35 ?a36 ?l36 ?c36 ?k36 ?a37 ?l37 ?c37 ?k37 ?a38 ?l38 ?c38 ?k38 ?a39 ?l39 ?c39 ?k39 ?a40 ?l40 ?c40 ?k40 ?a41 ?l41 ?c41 ?k41 ?z_abs ?z_all ?z_bool ?z_int ?z_isinstance ?z_len ?z_min ?z_range ?z_sum ?z_tuple ?z_zip ?z_gcd ?z_FIFTY_DIGITS ?z_MOST_PRIME ?z_NOUGHT ?y_NOUGHT ?x_NOUGHT ?z_PARTS ?z_SPACE ?y_SPACE ?x_SPACE
    (case a0 => k_is); (case l0 => k_is); (case c0 => k_is); (case k0 => k_is)
    (case a1 => k_is); (case l1 => k_is); (case c1 => k_is); (case k1 => k_is)
    (case a2 => k_is); (case l2 => k_is); (case c2 => k_is); (case k2 => k_is)
    (case a3 => k_is); (case l3 => k_is); (case c3 => k_is); (case k3 => k_is)
    (case a4 => k_is); (case l4 => k_is); (case c4 => k_is); (case k4 => k_is)
    (case a5 => k_is); (case l5 => k_is); (case c5 => k_is); (case k5 => k_is)
    (case a6 => k_is); (case l6 => k_is); (case c6 => k_is); (case k6 => k_is)
    (case a7 => k_is); (case l7 => k_is); (case c7 => k_is); (case k7 => k_is)
    (case a8 => k_is); (case l8 => k_is); (case c8 => k_is); (case k8 => k_is)
    (case a9 => k_is); (case l9 => k_is); (case c9 => k_is); (case k9 => k_is)
    (case a10 => k_is); (case l10 => k_is); (case c10 => k_is); (case k10 => k_is)
    (case a11 => k_is); (case l11 => k_is); (case c11 => k_is); (case k11 => k_is)
    (case a12 => k_is); (case l12 => k_is); (case c12 => k_is); (case k12 => k_is)
    (case a13 => k_is); (case l13 => k_is); (case c13 => k_is); (case k13 => k_is)
    (case a14 => k_is); (case l14 => k_is); (case c14 => k_is); (case k14 => k_is)
    (case a15 => k_is); (case l15 => k_is); (case c15 => k_is); (case k15 => k_is)
    (case a16 => k_is); (case l16 => k_is); (case c16 => k_is); (case k16 => k_is)
    (case a17 => k_is); (case l17 => k_is); (case c17 => k_is); (case k17 => k_is)
    (case a18 => k_is); (case l18 => k_is); (case c18 => k_is); (case k18 => k_is)
    (case a19 => k_is); (case l19 => k_is); (case c19 => k_is); (case k19 => k_is)
    (case a20 => k_is); (case l20 => k_is); (case c20 => k_is); (case k20 => k_is)
    (case a21 => k_is); (case l21 => k_is); (case c21 => k_is); (case k21 => k_is)
    (case a22 => k_is); (case l22 => k_is); (case c22 => k_is); (case k22 => k_is)
    (case a23 => k_is); (case l23 => k_is); (case c23 => k_is); (case k23 => k_is)
    (case a24 => k_is); (case l24 => k_is); (case c24 => k_is); (case k24 => k_is)
    (case a25 => k_is); (case l25 => k_is); (case c25 => k_is); (case k25 => k_is)
    (case a26 => k_is); (case l26 => k_is); (case c26 => k_is); (case k26 => k_is)
    (case a27 => k_is); (case l27 => k_is); (case c27 => k_is); (case k27 => k_is)
    (case a28 => k_is); (case l28 => k_is); (case c28 => k_is); (case k28 => k_is)
    (case a29 => k_is); (case l29 => k_is); (case c29 => k_is); (case k29 => k_is)
    (case a30 => k_is); (case l30 => k_is); (case c30 => k_is); (case k30 => k_is)
    (case a31 => k_is); (case l31 => k_is); (case c31 => k_is); (case k31 => k_is)
    (case a32 => k_is); (case l32 => k_is); (case c32 => k_is); (case k32 => k_is)
    (case a33 => k_is); (case l33 => k_is); (case c33 => k_is); (case k33 => k_is)
    (case a34 => k_is); (case l34 => k_is); (case c34 => k_is); (case k34 => k_is)
    (case a35 => k_is); (case l35 => k_is); (case c35 => k_is); (case k35 => k_is)
    (case a36 => k_is); (case l36 => k_is); (case c36 => k_is); (case k36 => k_is)
    (case a37 => k_is); (case l37 => k_is); (case c37 => k_is); (case k37 => k_is)
    (case a38 => k_is); (case l38 => k_is); (case c38 => k_is); (case k38 => k_is)
    (case a39 => k_is); (case l39 => k_is); (case c39 => k_is); (case k39 => k_is)
    (case a40 => k_is); (case l40 => k_is); (case c40 => k_is); (case k40 => k_is)
    (case a41 => k_is); (case l41 => k_is); (case c41 => k_is); (case k41 => k_is)
    (case z_abs => k_is); (case z_all => k_is); (case z_bool => k_is); (case z_int => k_is)
    (case z_isinstance => k_is); (case z_len => k_is); (case z_min => k_is); (case z_range => k_is)
    (case z_sum => k_is); (case z_tuple => k_is); (case z_zip => k_is); (case z_gcd => k_is)
    (case z_FIFTY_DIGITS => k_is); (case z_MOST_PRIME => k_is); (case z_NOUGHT => k_is); (case y_NOUGHT => k_is)
    (case z_PARTS => k_is); (case z_SPACE => k_is); (case y_SPACE => k_is)
    (case x_NOUGHT => rfl); (case x_SPACE => rfl)
