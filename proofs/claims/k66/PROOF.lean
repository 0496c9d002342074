import PyProof.Rows.All
import Wide.All
import OpenK.AllK
import Wide.FinOn
import HandS.ForMost
import HandS.ForExc
import HandS.Wide
import HandS.IsInst
import HandS.Walk
import HandS.Conv
import HandS.Style
import HandS.SortInts
import HandS.Gcd
import HandS.Deep
import HandS.TupLe
import HandS.RevRange
import HandS.EndBits
import HandS.List
import HandS.SetFor
import HandS.Rev
import HandS.RevTup
import PyProof.ListRange
import PySem.Challenge.RW_ridesshared_k66_whole_fewest_payments
set_option Elab.async false
set_option linter.all false
set_option maxRecDepth 100000
set_option maxHeartbeats 2000000
namespace Pw
open PySem L2

/-! ### values without a heap -/
inductive PV where
  | non | bl (b : Bool) | int (i : Int) | str (x : Str) | lst (xs : List PV) | tup (xs : List PV) | ro (ns : List Int)

/-- a tuple of the module -/
def TupK (K : PySem.W.Frag) (a : Addr) (vs : List V) : Prop := ∃ (o : Obj) (its : Array Value) (n : Nat), K.lookup a = some o ∧ o.cls = .type "tuple" ∧ o.data = .seq its n ∧ its.size ≤ sizeLine ∧ Vals vs its.toList
def TupAt (K : PySem.W.Frag) (F : Hp) (a : Addr) (vs : List V) : Prop := F a = some (.tup vs) ∨ TupK K a vs
theorem TupAt.mono {K : PySem.W.Frag} {F F' : Hp} {a : Addr} {vs : List V} (h : Same F F') : TupAt K F a vs → TupAt K F' a vs
  | .inl e => .inl (h _ _ e)
  | .inr e => .inr e
theorem TupAt.sq {K : PySem.W.Frag} {F : Hp} {a : Addr} {vs : List V} : TupAt K F a vs → SqT K F a vs
  | .inl e => SqT.of e
  | .inr e => .inr e
mutual
def Rep (K : PySem.W.Frag) (F : Hp) : PV → V → Prop
  | .non, v => v = .non
  | .bl b, v => v = .bl b
  | .int i, v => v = .int i
  | .str x, v => v = .str x
  | .lst xs, v => ∃ a vs, v = .ref a ∧ F a = some (.lst vs) ∧ RepL K F xs vs
  | .tup xs, v => ∃ a vs, v = .ref a ∧ TupAt K F a vs ∧ RepL K F xs vs
  | .ro ns, v => ∃ a, v = .ref a ∧ SqL K F a (ns.map V.int)
def RepL (K : PySem.W.Frag) (F : Hp) : List PV → List V → Prop
  | [], vs => vs = []
  | x :: xs, vs => ∃ v r, vs = v :: r ∧ Rep K F x v ∧ RepL K F xs r
end
section
variable {K : PySem.W.Frag} {F F' : Hp}
mutual
theorem Rep.mono (h : Same F F') : ∀ {x : PV} {v : V}, Rep K F x v → Rep K F' x v
  | .non, _, q => q
  | .bl _, _, q => q
  | .int _, _, q => q
  | .str _, _, q => q
  | .lst xs, _, ⟨a, vs, e, f, r⟩ => ⟨a, vs, e, h _ _ f, RepL.mono h r⟩
  | .tup xs, _, ⟨a, vs, e, f, r⟩ => ⟨a, vs, e, f.mono h, RepL.mono h r⟩
  | .ro ns, _, ⟨a, e, f⟩ => ⟨a, e, h.seq f⟩
theorem RepL.mono (h : Same F F') : ∀ {xs : List PV} {vs : List V}, RepL K F xs vs → RepL K F' xs vs
  | [], _, q => q
  | x :: xs, _, ⟨v, r, e, p, q⟩ => ⟨v, r, e, Rep.mono h p, RepL.mono h q⟩
end
theorem RepL.length : ∀ {xs : List PV} {vs : List V}, RepL K F xs vs → vs.length = xs.length
  | [], vs, h => by rw [show vs = [] from h]; rfl
  | x :: xs, _, ⟨v, r, e, p, q⟩ => by rw [e, List.length_cons, List.length_cons, RepL.length q]
theorem RepL.get : ∀ {xs : List PV} {vs : List V} {i : Nat} {x : PV}, RepL K F xs vs → xs[i]? = some x → ∃ v, vs[i]? = some v ∧ Rep K F x v
  | [], _, i, x, h, e => by simp at e
  | y :: xs, _, 0, x, ⟨v, r, e, p, q⟩, e' => by
    simp at e'; subst e'; subst e; exact ⟨v, by simp, p⟩
  | y :: xs, _, i + 1, x, ⟨v, r, e, p, q⟩, e' => by
    subst e
    obtain ⟨u, h1, h2⟩ := RepL.get (i := i) (x := x) q (by simpa using e')
    exact ⟨u, by simpa using h1, h2⟩
theorem RepL.append : ∀ {xs ys : List PV} {vs us : List V}, RepL K F xs vs → RepL K F ys us → RepL K F (xs ++ ys) (vs ++ us)
  | [], ys, vs, us, h, q => by rw [show vs = [] from h]; exact q
  | x :: xs, ys, _, us, ⟨v, r, e, p, q⟩, q' => by
    subst e
    exact ⟨v, r ++ us, rfl, p, RepL.append q q'⟩
theorem RepL.set : ∀ {xs : List PV} {vs : List V} {x : PV} {v : V} (i : Nat), RepL K F xs vs → Rep K F x v → RepL K F (xs.set i x) (vs.set i v)
  | [], vs, _, _, _, h, _ => by rw [show vs = [] from h]; exact rfl
  | y :: xs, _, _, _, 0, ⟨v, r, e, p, q⟩, h => by subst e; exact ⟨_, _, rfl, h, q⟩
  | y :: xs, _, _, _, i + 1, ⟨v, r, e, p, q⟩, h => by subst e; exact ⟨_, _, rfl, p, RepL.set i q h⟩
theorem RepL.take : ∀ {xs : List PV} {vs : List V} (n : Nat), RepL K F xs vs → RepL K F (xs.take n) (vs.take n)
  | _, _, 0, _ => by simp; exact rfl
  | [], vs, _ + 1, h => by rw [show vs = [] from h]; exact rfl
  | x :: xs, _, n + 1, ⟨v, r, e, p, q⟩ => by subst e; exact ⟨_, _, rfl, p, RepL.take n q⟩
theorem RepL.drop : ∀ {xs : List PV} {vs : List V} (n : Nat), RepL K F xs vs → RepL K F (xs.drop n) (vs.drop n)
  | _, _, 0, h => h
  | [], vs, _ + 1, h => by rw [show vs = [] from h]; exact rfl
  | x :: xs, _, n + 1, ⟨v, r, e, p, q⟩ => by subst e; exact RepL.drop n q
theorem RepL.eraseIdx : ∀ {xs : List PV} {vs : List V} (n : Nat), RepL K F xs vs → RepL K F (xs.eraseIdx n) (vs.eraseIdx n)
  | [], vs, _, h => by rw [show vs = [] from h]; exact rfl
  | x :: xs, _, 0, ⟨v, r, e, p, q⟩ => by subst e; exact q
  | x :: xs, _, n + 1, ⟨v, r, e, p, q⟩ => by subst e; exact ⟨_, _, rfl, p, RepL.eraseIdx n q⟩
theorem RepL.of_ints (F : Hp) : ∀ (ns : List Int), RepL K F (ns.map PV.int) (ns.map V.int)
  | [] => rfl
  | n :: ns => ⟨_, _, rfl, rfl, RepL.of_ints F ns⟩
theorem RepL.cons {x : PV} {v : V} {xs : List PV} {vs : List V} (h : Rep K F x v) (q : RepL K F xs vs) : RepL K F (x :: xs) (v :: vs) := ⟨_, _, rfl, h, q⟩
theorem RepL.rep {xs : List PV} {vs : List V} (h : RepL K F xs vs) : ∀ k : Nat, RepL K F (List.replicate k xs).flatten (List.replicate k vs).flatten
  | 0 => rfl
  | k + 1 => by
    rw [List.replicate_succ, List.replicate_succ, List.flatten_cons, List.flatten_cons]
    exact RepL.append h (RepL.rep h k)
theorem RepL.reverse : ∀ {xs : List PV} {vs : List V}, RepL K F xs vs → RepL K F xs.reverse vs.reverse
  | [], vs, h => by rw [show vs = [] from h]; exact rfl
  | x :: xs, _, ⟨v, r, e, p, q⟩ => by
    subst e
    rw [List.reverse_cons, List.reverse_cons]
    exact RepL.append (RepL.reverse q) (RepL.cons p rfl)
end

/-! ### results -/
inductive Rs (α : Type) where
  | stuck | exc (c : Str) | ok (a : α)
namespace Rs
variable {α β : Type}
def bind : Rs α → (α → Rs β) → Rs β
  | .stuck, _ => .stuck
  | .exc c, _ => .exc c
  | .ok a, f => f a
def wp (r : Rs α) (E : Str → Prop) (Q : α → Prop) : Prop :=
  match r with
  | .stuck => False
  | .exc c => E c
  | .ok a => Q a
theorem wp_bind {r : Rs α} {f : α → Rs β} {E : Str → Prop} {Q : β → Prop} : (r.bind f).wp E Q ↔ r.wp E fun a => (f a).wp E Q := by
  cases r <;> exact Iff.rfl
theorem wp_mono {r : Rs α} {E E' : Str → Prop} {Q Q' : α → Prop} (h : r.wp E Q) (hE : ∀ c, E c → E' c) (hQ : ∀ a, Q a → Q' a) : r.wp E' Q' := by
  cases r with
  | stuck => exact h
  | exc c => exact hE c h
  | ok a => exact hQ a h
def opt : Option α → Rs α
  | some a => .ok a
  | none => .stuck
theorem opt_wp {o : Option α} {E : Str → Prop} {Q : α → Prop} (h : (opt o).wp E Q) : ∃ a, o = some a ∧ Q a := by
  cases o with
  | none => exact h.elim
  | some a => exact ⟨a, rfl, h⟩
/-- without exceptions -/
def noexc : Rs α → Rs α
  | .exc _ => .stuck
  | r => r
@[simp] theorem bind_ok (a : α) (f : α → Rs β) : (Rs.ok a).bind f = f a := rfl
@[simp] theorem bind_stuck (f : α → Rs β) : (Rs.stuck : Rs α).bind f = .stuck := rfl
@[simp] theorem bind_exc (c : Str) (f : α → Rs β) : (Rs.exc c : Rs α).bind f = .exc c := rfl
@[simp] theorem noexc_ok (a : α) : (Rs.ok a).noexc = .ok a := rfl
@[simp] theorem noexc_stuck : (Rs.stuck : Rs α).noexc = .stuck := rfl
@[simp] theorem opt_some (a : α) : opt (some a) = .ok a := rfl
@[simp] theorem opt_none : opt (none : Option α) = .stuck := rfl
end Rs
abbrev Env := List (Option PV)

/-! ### the state -/
structure Gh where
  H0 : Hp
  F0 : Hp
abbrev Om := Addr → Option (Addr × Option Nat)
structure Le (F : Hp) (ω : Om) (H F' : Hp) (ω' : Om) (H' : Hp) : Prop where
  f : Same F F'
  o : ∀ p l, ω p = some l → ω' p = some l
  h : Same H H'
theorem Le.refl (F : Hp) (ω : Om) (H : Hp) : Le F ω H F ω H := ⟨.refl F, fun _ _ h => h, .refl H⟩
theorem Le.trans {F : Hp} {ω : Om} {H F1 : Hp} {ω1 : Om} {H1 F2 : Hp} {ω2 : Om} {H2 : Hp} (a : Le F ω H F1 ω1 H1) (b : Le F1 ω1 H1 F2 ω2 H2) : Le F ω H F2 ω2 H2 :=
  ⟨a.f.trans b.f, fun p l h => b.o p l (a.o p l h), a.h.trans b.h⟩
structure Wd (G : Gh) (F : Hp) (ω : Om) (H : Hp) : Prop where
  h0 : Same G.H0 H
  f0 : Same G.F0 F
  f : Same F H
  nw : ∀ a xs o', F a = some (.lst xs) → G.H0 a = some o' → ∃ o'', G.F0 a = some o''
  om : ∀ p l, ω p = some l → F p = none ∧ G.H0 p = none ∧ ∃ vs, H p = some (.lst vs)
/-- a value that may be read: a list may be one that is still changed -/
def Rv (K : PySem.W.Frag) (F H : Hp) (x : PV) (v : V) : Prop := Rep K F x v ∨ ∃ a vs xs, x = .lst xs ∧ v = .ref a ∧ H a = some (.lst vs) ∧ RepL K F xs vs
/-- how a value is held: 0 frozen, 1 an owned list of frozen items, 2 an owned list of owned lists, 3 to be read alone -/
def Sl (K : PySem.W.Frag) (F : Hp) (ω : Om) (H : Hp) : Nat → PV → V → Prop
  | 0, x, v => Rep K F x v
  | 3, x, v => Rv K F H x v
  | 1, x, v => ∃ p vs xs, x = .lst xs ∧ v = .ref p ∧ H p = some (.lst vs) ∧ ω p = some (p, none) ∧ RepL K F xs vs
  | 2, x, v => ∃ p vs xs, x = .lst xs ∧ v = .ref p ∧ H p = some (.lst vs) ∧ ω p = some (p, none) ∧ vs.length = xs.length ∧
      ∀ k y u, xs[k]? = some y → vs[k]? = some u → ∃ q ws ys, y = .lst ys ∧ u = .ref q ∧ H q = some (.lst ws) ∧ ω q = some (p, some k) ∧ RepL K F ys ws
  | _, _, _ => False
section
variable {K : PySem.W.Frag} {G : Gh} {F F' : Hp} {ω ω' : Om} {H H' : Hp}
theorem Sl.mono (l : Le F ω H F' ω' H') : ∀ {d : Nat} {x : PV} {v : V}, Sl K F ω H d x v → Sl K F' ω' H' d x v
  | 0, _, _, h => Rep.mono l.f h
  | 3, _, _, .inl h => .inl (Rep.mono l.f h)
  | 3, _, _, .inr ⟨a, vs, xs, e1, e2, h, r⟩ => .inr ⟨a, vs, xs, e1, e2, l.h _ _ h, r.mono l.f⟩
  | 1, _, _, ⟨p, vs, xs, e1, e2, h, o, r⟩ => ⟨p, vs, xs, e1, e2, l.h _ _ h, l.o _ _ o, r.mono l.f⟩
  | 2, _, _, ⟨p, vs, xs, e1, e2, h, o, n, r⟩ => ⟨p, vs, xs, e1, e2, l.h _ _ h, l.o _ _ o, n, fun k y u a b =>
      let ⟨q, ws, ys, f1, f2, f3, f4, f5⟩ := r k y u a b
      ⟨q, ws, ys, f1, f2, l.h _ _ f3, l.o _ _ f4, f5.mono l.f⟩⟩
  | _ + 4, _, _, h => h
/-- the addresses of an owned value -/
theorem Sl.top : ∀ {d : Nat} {x : PV} {v : V}, d = 1 ∨ d = 2 → Sl K F ω H d x v → ∃ p vs, v = .ref p ∧ ω p = some (p, none) ∧ H p = some (.lst vs)
  | 0, _, _, n, _ => by omega
  | 1, _, _, _, ⟨p, vs, xs, e1, e2, h, o, r⟩ => ⟨p, vs, e2, o, h⟩
  | 2, _, _, _, ⟨p, vs, xs, e1, e2, h, o, n, r⟩ => ⟨p, vs, e2, o, h⟩
  | _ + 3, _, _, n, _ => by omega

structure Rel (K : PySem.W.Frag) (G : Gh) (ds : List Nat) (F : Hp) (ω : Om) (env : Env) (σ : St) (H : Hp) : Prop where
  wd : Wd G F ω H
  sl : ∀ i x, env[i]? = some (some x) → ∃ v, σ[i]? = some (some v) ∧ Sl K F ω H (ds.getD i 0) x v
  ap : ∀ i j x y v, i ≠ j → (ds.getD i 0 = 1 ∨ ds.getD i 0 = 2) → (ds.getD j 0 = 1 ∨ ds.getD j 0 = 2) → env[i]? = some (some x) → env[j]? = some (some y) → σ[i]? = some (some v) → σ[j]? ≠ some (some v)
  ln : env.length = σ.length
theorem Rel.mono {ds : List Nat} {env : Env} {σ : St} (r : Rel K G ds F ω env σ H) (l : Le F ω H F' ω' H') (w : Wd G F' ω' H') : Rel K G ds F' ω' env σ H' :=
  ⟨w, fun i x e => let ⟨v, h1, h2⟩ := r.sl i x e; ⟨v, h1, h2.mono l⟩, r.ap, r.ln⟩
/-- a new object that is frozen -/
theorem Wd.frz (w : Wd G F ω H) {p : Addr} {o : HO} (hp : H p = none) : Wd G (upd F p o) ω (upd H p o) ∧ Le F ω H (upd F p o) ω (upd H p o) := by
  have hF : F p = none := w.f.free hp
  have h0 : G.H0 p = none := w.h0.free hp
  have sf : Same F (upd F p o) := fun b u e => by rw [upd_ne (ne_of_none e hF)]; exact e
  have sh : Same H (upd H p o) := fun b u e => by rw [upd_ne (ne_of_none e hp)]; exact e
  refine ⟨⟨w.h0.trans sh, w.f0.trans sf, fun b u e => ?_, fun a u u' e e' => ?_, fun q l e => ?_⟩, sf, fun _ _ e => e, sh⟩
  · by_cases hb : b = p
    · subst hb; rw [upd_same] at e ⊢; exact e
    · rw [upd_ne hb] at e ⊢; exact w.f b u e
  · by_cases hb : a = p
    · subst hb; rw [h0] at e'; cases e'
    · rw [upd_ne hb] at e; exact w.nw a u u' e e'
  · obtain ⟨h1, h2, u, h3⟩ := w.om q l e
    have hq : q ≠ p := ne_of_none h3 hp
    exact ⟨by rw [upd_ne hq]; exact h1, h2, u, by rw [upd_ne hq]; exact h3⟩
/-- a new list that is owned -/
theorem Wd.own (w : Wd G F ω H) {p : Addr} {vs : List V} (hp : H p = none) : Wd G F (fun q => if q = p then some (p, none) else ω q) (upd H p (.lst vs)) ∧ Le F ω H F (fun q => if q = p then some (p, none) else ω q) (upd H p (.lst vs)) := by
  have hF : F p = none := w.f.free hp
  have h0 : G.H0 p = none := w.h0.free hp
  have sh : Same H (upd H p (.lst vs)) := fun b u e => by rw [upd_ne (ne_of_none e hp)]; exact e
  refine ⟨⟨w.h0.trans sh, w.f0, w.f.trans sh, w.nw, fun q l e => ?_⟩, .refl F, fun q l e => ?_, sh⟩
  · by_cases hq : q = p
    · subst hq; exact ⟨hF, h0, vs, upd_same⟩
    · rw [if_neg hq] at e
      obtain ⟨h1, h2, u, h3⟩ := w.om q l e
      exact ⟨h1, h2, u, by rw [upd_ne hq]; exact h3⟩
  · obtain ⟨_, _, u, h3⟩ := w.om q l e
    have hq : q ≠ p := ne_of_none h3 hp
    show (if q = p then _ else _) = _
    rw [if_neg hq]; exact e
end

/-! ### judgements -/
structure Px where
  X : Cx
  W : WX
  G : Gh
  dr : Nat
/-- an exception that leaves an expression -/
def ExcW (P : Px) (c : Str) (σ : St) (H : Hp) : Prop := ∀ C H', P.X.mg c = some (.ref C) → Same H H' → P.W (.ref C) none σ H'
/-- .. a statement -/
def ExcS (P : Px) (c : Str) : Prop := ∀ C σ' H', P.X.mg c = some (.ref C) → Same P.G.H0 H' → P.W (.ref C) none σ' H'
theorem ExcW.mono {P : Px} {c : Str} {σ : St} {H H' : Hp} (h : ExcW P c σ H) (s : Same H H') : ExcW P c σ H' := fun C H2 m s2 => h C H2 m (s.trans s2)
theorem ExcS.w {P : Px} {c : Str} {σ : St} {H : Hp} (h : ExcS P c) (s : Same P.G.H0 H) : ExcW P c σ H := fun C H2 m s2 => h C σ H2 m (s.trans s2)
/-- what is wanted of a value -/
def Val (P : Px) (d : Nat) (F : Hp) (ω : Om) (H : Hp) (x : PV) (Q : VK) : Prop :=
  ∀ F' ω' H' v, Le F ω H F' ω' H' → Wd P.G F' ω' H' → Sl P.X.K F' ω' H' d x v → (d = 1 ∨ d = 2 → ∀ p, v = .ref p → H p = none) → Q v H'
def lift (P : Px) (ds : List Nat) (d : Nat) (f : Env → Rs PV) : TE := fun σ H Q => ∃ F ω env, Rel P.X.K P.G ds F ω env σ H ∧ (f env).wp (fun c => ExcW P c σ H) fun x => Val P d F ω H x Q
def liftT (P : Px) (ds : List Nat) (f : Env → Rs Bool) : TT := fun σ H Q => ∃ F ω env, Rel P.X.K P.G ds F ω env σ H ∧ (f env).wp (fun c => ExcW P c σ H) fun b => ∀ F' ω' H', Le F ω H F' ω' H' → Wd P.G F' ω' H' → Q b H'
def liftA (P : Px) (ds : List Nat) (f : Env → Rs (List PV)) : TA := fun σ H Q => ∃ F ω env, Rel P.X.K P.G ds F ω env σ H ∧ (f env).wp (fun c => ExcW P c σ H) fun xs => ∀ F' ω' H' vs, Le F ω H F' ω' H' → Wd P.G F' ω' H' → RepL P.X.K F' xs vs → Q vs H'
def QE (P : Px) (ds : List Nat) (d : Nat) (e : Expr) (f : Env → Rs PV) : Prop := PE P.X e (lift P ds d f)
def QT (P : Px) (ds : List Nat) (e : Expr) (f : Env → Rs Bool) : Prop := PT P.X e (liftT P ds f)
def QA (P : Px) (ds : List Nat) (es : List Expr) (f : Env → Rs (List PV)) : Prop := PA P.X es (liftA P ds f) ∧ ∀ env xs, f env = .ok xs → xs.length = es.length
inductive Out where
  | nx (env : Env) | rt (x : PV)
def SOk (P : Px) (ds : List Nat) (D : Ends) (F0 : Hp) : Out → Prop
  | .nx env => ∀ F ω σ H, Same F0 F → Rel P.X.K P.G ds F ω env σ H → D.nx σ H
  | .rt x => ∀ F ω H v, Wd P.G F ω H → Sl P.X.K F ω H P.dr x v → (P.dr = 1 ∨ P.dr = 2 → ∀ p, v = .ref p → P.G.H0 p = none) → D.rt v H
def liftS (P : Px) (ds ds' : List Nat) (f : Env → Rs Out) : TS := fun D σ H => ∃ F ω env, Rel P.X.K P.G ds F ω env σ H ∧ (f env).wp (ExcS P) (SOk P ds' D F)
def QS (P : Px) (ds : List Nat) (st : Stmt) (ds' : List Nat) (f : Env → Rs Out) : Prop := PS P.X st (liftS P ds ds' f)
def QB (P : Px) (ds : List Nat) (st : List Stmt) (ds' : List Nat) (f : Env → Rs Out) : Prop := PSs P.X st (liftS P ds ds' f)
section
variable {X : Cx} {e : Expr} {es : List Expr} {st : Stmt} {sts : List Stmt}
theorem PE.imp {t t' : TE} (h : PE X e t) (i : ∀ σ H Q, t' σ H Q → t σ H Q) : PE X e t' := ⟨fun p s σ H Q I q => h.run p s σ H Q I (i _ _ _ q)⟩
theorem PT.imp {t t' : TT} (h : PT X e t) (i : ∀ σ H Q, t' σ H Q → t σ H Q) : PT X e t' := ⟨fun p s σ H Q I q => h.run p s σ H Q I (i _ _ _ q)⟩
theorem PW.imp {t t' : TT} (h : PW X e t) (i : ∀ σ H Q, t' σ H Q → t σ H Q) : PW X e t' := ⟨fun wh p s σ H Q I q => h.run wh p s σ H Q I (i _ _ _ q)⟩
theorem PA.imp {t t' : TA} (h : PA X es t) (i : ∀ σ H Q, t' σ H Q → t σ H Q) : PA X es t' := ⟨fun pos p s σ H Q I q => h.run pos p s σ H Q I (i _ _ _ q)⟩
theorem PS.imp {t t' : TS} (h : PS X st t) (i : ∀ D σ H, t' D σ H → t D σ H) : PS X st t' := ⟨fun p s σ H D I q => h.run p s σ H D I (i _ _ _ q)⟩
theorem PSs.imp {t t' : TS} (h : PSs X sts t) (i : ∀ D σ H, t' D σ H → t D σ H) : PSs X sts t' := ⟨fun p s σ H D I q => h.run p s σ H D I (i _ _ _ q)⟩
end
/-- how a lifted reading is met -/
theorem lift.to {P : Px} {ds : List Nat} {d : Nat} {f : Env → Rs PV} {F : Hp} {ω : Om} {env : Env} {σ : St} {H : Hp} {Q : VK} (r : Rel P.X.K P.G ds F ω env σ H) {E : Str → Prop} {R : PV → Prop} (h : (f env).wp E R)
    (hE : ∀ c, E c → ExcW P c σ H) (hQ : ∀ x, R x → Val P d F ω H x Q) : lift P ds d f σ H Q := ⟨F, ω, env, r, Rs.wp_mono h hE hQ⟩
theorem liftT.to {P : Px} {ds : List Nat} {f : Env → Rs Bool} {F : Hp} {ω : Om} {env : Env} {σ : St} {H : Hp} {Q : Bool → Hp → Prop} (r : Rel P.X.K P.G ds F ω env σ H) {E : Str → Prop} {R : Bool → Prop} (h : (f env).wp E R)
    (hE : ∀ c, E c → ExcW P c σ H) (hQ : ∀ x, R x → ∀ F' ω' H', Le F ω H F' ω' H' → Wd P.G F' ω' H' → Q x H') : liftT P ds f σ H Q := ⟨F, ω, env, r, Rs.wp_mono h hE hQ⟩
theorem liftA.to {P : Px} {ds : List Nat} {f : Env → Rs (List PV)} {F : Hp} {ω : Om} {env : Env} {σ : St} {H : Hp} {Q : List V → Hp → Prop} (r : Rel P.X.K P.G ds F ω env σ H) {E : Str → Prop} {R : List PV → Prop} (h : (f env).wp E R)
    (hE : ∀ c, E c → ExcW P c σ H) (hQ : ∀ xs, R xs → ∀ F' ω' H' vs, Le F ω H F' ω' H' → Wd P.G F' ω' H' → RepL P.X.K F' xs vs → Q vs H') : liftA P ds f σ H Q := ⟨F, ω, env, r, Rs.wp_mono h hE hQ⟩
theorem Val.mono {P : Px} {d : Nat} {F F1 : Hp} {ω ω1 : Om} {H H1 : Hp} {x : PV} {Q : VK} (h : Val P d F ω H x Q) (l : Le F ω H F1 ω1 H1) : Val P d F1 ω1 H1 x Q :=
  fun F' ω' H' v l' w s fr => h F' ω' H' v (l.trans l') w s fun n p e => l.h.free (fr n p e)

/-! ### expressions -/
section
variable {P : Px} {ds : List Nat} {pos : Pos}
@[simp] def eV (i : Nat) (env : Env) : Rs PV := match env[i]? with
  | some (some x) => .ok x
  | _ => .stuck
@[simp] def eC (x : PV) (_ : Env) : Rs PV := .ok x
/-- a name whose slot is frozen (or one of a written number) -/
theorem qe_v (i : Nat) {x : Str} (hd : ds.getD i 0 = 0 := by rfl) (hN : P.X.N[i]? = some x := by rfl) (hv : Vis P.X.env.scope x := by first | exact Or.inl rfl | exact Or.inr (Or.inl rfl) | exact Or.inr (Or.inr rfl))
    (hdb : (x == ("__debug__" : Str)) = false := by decide) (hcd : (x == ("__classdict__" : Str)) = false := by decide) : QE P ds 0 (.Name x pos) (eV i) :=
  PE.imp (pe_var hN hv hdb hcd) fun σ H Q ⟨F, ω, env, r, h⟩ => by
    unfold eV at h
    split at h
    · rename_i x e
      obtain ⟨v, e1, s⟩ := r.sl i x e
      rw [hd] at s
      exact ⟨v, e1, h F ω H v (.refl F ω H) r.wd s (by omega)⟩
    · exact h.elim
/-- .. moved out of an owned slot (the slot is not read again) -/
theorem Val.ok0 {F : Hp} {ω : Om} {H : Hp} {x : PV} {Q : VK} (h : Val P 0 F ω H x Q) (w : Wd P.G F ω H) {v : V} (r : Rep P.X.K F x v) : Q v H := h F ω H v (.refl F ω H) w r (by omega)
theorem qe_int {i : Int} {j} : QE P ds 0 (.Constant (.int i) j pos) (eC (.int i)) := PE.imp pe_int fun σ H Q ⟨F, ω, env, r, h⟩ => h.ok0 r.wd rfl
theorem qe_bl {b : Bool} {j} : QE P ds 0 (.Constant (.bool b) j pos) (eC (.bl b)) := PE.imp pe_bl fun σ H Q ⟨F, ω, env, r, h⟩ => h.ok0 r.wd rfl
theorem qe_non {j} : QE P ds 0 (.Constant .none j pos) (eC .non) := PE.imp pe_non fun σ H Q ⟨F, ω, env, r, h⟩ => h.ok0 r.wd rfl
theorem qe_str {x : Str} {j} : QE P ds 0 (.Constant (.str x) j pos) (eC (.str x)) := PE.imp pe_str fun σ H Q ⟨F, ω, env, r, h⟩ => h.ok0 r.wd rfl

/-- to be read -/
theorem qe_rd {e : Expr} {f : Env → Rs PV} (h : QE P ds 0 e f) : QE P ds 3 e f :=
  PE.imp h fun σ H Q ⟨F, ω, env, r, q⟩ => ⟨F, ω, env, r, Rs.wp_mono q (fun _ z => z) fun x hx F' ω' H' v l w s _ => hx F' ω' H' v l w (.inl s) (by omega)⟩
theorem qe_rdv (i : Nat) {x : Str} (hd : ds.getD i 0 = 1 := by rfl) (hN : P.X.N[i]? = some x := by rfl) (hv : Vis P.X.env.scope x := by first | exact Or.inl rfl | exact Or.inr (Or.inl rfl) | exact Or.inr (Or.inr rfl))
    (hdb : (x == ("__debug__" : Str)) = false := by decide) (hcd : (x == ("__classdict__" : Str)) = false := by decide) : QE P ds 3 (.Name x pos) (eV i) :=
  PE.imp (pe_var hN hv hdb hcd) fun σ H Q ⟨F, ω, env, r, h⟩ => by
    unfold eV at h
    split at h
    · rename_i x e
      obtain ⟨v, e1, s⟩ := r.sl i x e
      rw [hd] at s
      obtain ⟨p, vs, xs, q1, q2, q3, q4, q5⟩ := s
      exact ⟨v, e1, h F ω H v (.refl F ω H) r.wd (.inr ⟨p, vs, xs, q1, q2, q3, q5⟩) (by omega)⟩
    · exact h.elim
theorem Rv.mono {K : PySem.W.Frag} {F F' H H' : Hp} {x : PV} {v : V} (f : Same F F') (h : Same H H') (r : Rv K F H x v) : Rv K F' H' x v := by
  rcases r with r | ⟨a, vs, xs, e1, e2, e3, r⟩
  · exact .inl (r.mono f)
  · exact .inr ⟨a, vs, xs, e1, e2, h _ _ e3, r.mono f⟩

/-! ### operations on values -/
/-- o says what f does with readable values -/
def Op2 (P : Px) (f : Value → Value → Sem Value) (d : Nat) (o : PV → PV → Rs PV) : Prop :=
  OpR P.X f fun x y H Q => ∃ F ω a b, Wd P.G F ω H ∧ Rv P.X.K F H a x ∧ Rv P.X.K F H b y ∧ (o a b).wp (fun _ => False) fun z => Val P d F ω H z Q
@[simp] def eOp (o : PV → PV → Rs PV) (fa fb : Env → Rs PV) (env : Env) : Rs PV := (fa env).bind fun x => (fb env).bind fun y => (o x y).noexc
theorem noexc_wp {α : Type} {r : Rs α} {E : Str → Prop} {Q : α → Prop} (h : r.noexc.wp E Q) : r.wp (fun _ => False) Q := by
  cases r with
  | stuck => exact h
  | exc c => exact h.elim
  | ok a => exact h
theorem bin_to {a b : Expr} {fa fb : Env → Rs PV} {g : PV → PV → Rs PV} {d : Nat} {F : Hp} {ω : Om} {env : Env} {σ : St} {H : Hp} {Q : VK} (r : Rel P.X.K P.G ds F ω env σ H)
    (h : ((fa env).bind fun x => (fb env).bind fun y => g x y).wp (fun c => ExcW P c σ H) fun x => Val P d F ω H x Q) {R : V → V → Hp → Prop}
    (k : ∀ F' ω' H' x y v u, Le F ω H F' ω' H' → Wd P.G F' ω' H' → Rv P.X.K F' H' x v → Rv P.X.K F' H' y u → (g x y).wp (fun c => ExcW P c σ H) (fun x => Val P d F ω H x Q) → R v u H') :
    lift P ds 3 fa σ H fun x H1 => lift P ds 3 fb σ H1 fun y H2 => R x y H2 := by
  refine lift.to r (Rs.wp_bind.mp h) (fun _ z => z) fun x hx F1 ω1 H1 v l1 w1 s1 _ => ?_
  refine lift.to (r.mono l1 w1) (Rs.wp_bind.mp hx) (fun c z => z.mono l1.h) fun y hy F2 ω2 H2 u l2 w2 s2 _ => ?_
  exact k F2 ω2 H2 x y v u (l1.trans l2) w2 (Rv.mono l2.f l2.h s1) s2 hy
theorem qe_op {op : Operator} {o : PV → PV → Rs PV} {d : Nat} {a b : Expr} {fa fb : Env → Rs PV} (ho : Op2 P (binaryOp op) d o) (ha : QE P ds 3 a fa) (hb : QE P ds 3 b fb) : QE P ds d (.BinOp a op b pos) (eOp o fa fb) :=
  PE.imp (pe_op ho ha hb) fun σ H Q ⟨F, ω, env, r, h⟩ => bin_to (a := a) (b := b) r h fun F' ω' H' x y v u l w s1 s2 q => ⟨F', ω', x, y, w, s1, s2, Rs.wp_mono (noexc_wp q) (fun _ z => z) fun z hz => hz.mono l⟩
theorem qe_cmp {op : CmpOp} {o : PV → PV → Rs PV} {a b : Expr} {fa fb : Env → Rs PV} (ho : Op2 P (compareOp op) 0 o) (ha : QE P ds 3 a fa) (hb : QE P ds 3 b fb) (hm : behindInMarks op b = false) : QE P ds 0 (.Compare a [op] [b] pos) (eOp o fa fb) :=
  PE.imp (pe_cmpR ho ha hb hm) fun σ H Q ⟨F, ω, env, r, h⟩ => bin_to (a := a) (b := b) r h fun F' ω' H' x y v u l w s1 s2 q => ⟨F', ω', x, y, w, s1, s2, Rs.wp_mono (noexc_wp q) (fun _ z => z) fun z hz => hz.mono l⟩
/-- a bool value as a test -/
def tst (x : PV) : Rs Bool := match x with
  | .bl b => .ok b
  | _ => .stuck
@[simp] theorem tst_r1 (b : Bool) : tst (.bl b) = .ok b := rfl
@[simp] def eT (f : Env → Rs PV) (env : Env) : Rs Bool := (f env).bind tst
theorem tst_val {F : Hp} {ω : Om} {H : Hp} {x : PV} {σ : St} {Q : Bool → Hp → Prop} (h : (tst x).wp (fun c => ExcW P c σ H) fun b => ∀ F' ω' H', Le F ω H F' ω' H' → Wd P.G F' ω' H' → Q b H') :
    Val P 0 F ω H x fun x H' => ∃ k, x = .bl k ∧ Q k H' := fun F' ω' H' v l w s _ => by
  cases x with
  | bl b => exact ⟨b, s, h F' ω' H' l w⟩
  | _ => exact h.elim
theorem qt_val {e : Expr} {f : Env → Rs PV} (h : QE P ds 0 e f) (he : ∀ whole, isTrue e P.X.env whole = (do let v ← whole; standAt e.pos; holding [v] (truthy v)) := by intro _; rfl) : QT P ds e (eT f) :=
  PT.imp (pt_val h he) fun σ H Q ⟨F, ω, env, r, q⟩ => lift.to r (Rs.wp_bind.mp q) (fun _ z => z) fun x hx => tst_val hx
theorem qt_cmp {op : CmpOp} {o : PV → PV → Rs PV} {a b : Expr} {fa fb : Env → Rs PV} (ho : Op2 P (compareOp op) 0 o) (ha : QE P ds 3 a fa) (hb : QE P ds 3 b fb) (hm : behindInMarks op b = false) : QT P ds (.Compare a [op] [b] pos) (eT (eOp o fa fb)) :=
  PT.imp (pt_cmpR ho ha hb hm) fun σ H Q ⟨F, ω, env, r, h⟩ => by
    refine bin_to (a := a) (b := b) (d := 0) (Q := fun x H' => ∃ k, x = .bl k ∧ Q k H') r (g := fun x y => (o x y).noexc) ?_ fun F' ω' H' x y v u l w s1 s2 q => ⟨F', ω', x, y, w, s1, s2, Rs.wp_mono (noexc_wp q) (fun _ z => z) fun z hz => hz.mono l⟩
    exact Rs.wp_mono (Rs.wp_bind.mp h) (fun _ z => z) fun x hx => tst_val hx
end
end Pw

namespace Pw
open PySem L2
@[simp] def lim : Nat := 16777216
theorem lim_eq : sizeLine = lim := by rw [sizeLine_eq]; rfl
section
variable {K : PySem.W.Frag} {G : Gh} {F : Hp} {ω : Om} {H : Hp} {v : V}
theorem Rv.lst {xs : List PV} (w : Wd G F ω H) (h : Rv K F H (.lst xs) v) : ∃ a vs, v = .ref a ∧ H a = some (.lst vs) ∧ RepL K F xs vs := by
  rcases h with ⟨a, vs, e, f, r⟩ | ⟨a, vs, ys, e, e2, f, r⟩
  · exact ⟨a, vs, e, w.f _ _ f, r⟩
  · cases e; exact ⟨a, vs, e2, f, r⟩
theorem Rv.rep {x : PV} (h : Rv K F H x v) (n : ∀ xs, x ≠ .lst xs := by intro xs q; cases q) : Rep K F x v := by
  rcases h with h | ⟨a, vs, ys, e, e2, f, r⟩
  · exact h
  · exact absurd e (n _)
theorem Rv.int {i : Int} (h : Rv K F H (.int i) v) : v = .int i := h.rep
theorem Rv.bl {i : Bool} (h : Rv K F H (.bl i) v) : v = .bl i := h.rep
theorem Rv.str {i : Str} (h : Rv K F H (.str i) v) : v = .str i := h.rep
theorem Rv.non (h : Rv K F H .non v) : v = .non := h.rep
theorem Rv.tup {xs : List PV} (w : Wd G F ω H) (h : Rv K F H (.tup xs) v) : ∃ a vs, v = .ref a ∧ TupAt K H a vs ∧ RepL K F xs vs := by
  obtain ⟨a, vs, e, f, r⟩ := h.rep
  exact ⟨a, vs, e, f.mono w.f, r⟩
theorem Rv.ro {ns : List Int} (w : Wd G F ω H) (h : Rv K F H (.ro ns) v) : ∃ a, v = .ref a ∧ SqL K H a (ns.map V.int) := by
  obtain ⟨a, e, f⟩ := h.rep
  exact ⟨a, e, w.f.seq f⟩
end
section
variable {P : Px} {F : Hp} {ω : Om} {H : Hp} {Q : VK}
theorem Val.of0 {x : PV} (h : Val P 0 F ω H x Q) (w : Wd P.G F ω H) {v : V} (r : Rep P.X.K F x v) : Q v H := h F ω H v (.refl F ω H) w r (by omega)
/-- a new list -/
theorem Val.newL {d : Nat} (hd : d ≤ 1) {xs : List PV} {vs : List V} (h : Val P d F ω H (.lst xs) Q) (w : Wd P.G F ω H) (r : RepL P.X.K F xs vs) : ∀ p, H p = none → Q (.ref p) (upd H p (.lst vs)) := fun p hp => by
  match d, hd with
  | 0, _ =>
    obtain ⟨w', l⟩ := w.frz (o := .lst vs) hp
    exact h _ _ _ _ l w' ⟨p, vs, rfl, upd_same, r.mono l.f⟩ (by omega)
  | 1, _ =>
    obtain ⟨w', l⟩ := w.own (vs := vs) hp
    exact h _ _ _ _ l w' ⟨p, vs, xs, rfl, rfl, upd_same, if_pos rfl, r⟩ fun _ q e => by cases e; exact hp
theorem Val.newT {xs : List PV} {vs : List V} (h : Val P 0 F ω H (.tup xs) Q) (w : Wd P.G F ω H) (r : RepL P.X.K F xs vs) : ∀ p, H p = none → Q (.ref p) (upd H p (.tup vs)) := fun p hp => by
  obtain ⟨w', l⟩ := w.frz (o := .tup vs) hp
  exact h _ _ _ _ l w' ⟨p, vs, rfl, .inl upd_same, r.mono l.f⟩ (by omega)
end

/-! ### arithmetic -/
def oAdd : PV → PV → Rs PV
  | .int i, .int j => .ok (.int (i + j))
  | .int i, .bl k => .ok (.int (i + if k then 1 else 0))
  | .lst xs, .lst ys => if xs.length + ys.length ≤ lim then .ok (.lst (xs ++ ys)) else .stuck
  | .str x, .str y => if x.length + y.length ≤ lim then .ok (.str (x ++ y)) else .stuck
  | _, _ => .stuck
@[simp] theorem oAdd_r1 (i : Int) (j : Int) : oAdd (.int i) (.int j) = .ok (.int (i + j)) := rfl
@[simp] theorem oAdd_r2 (i : Int) (k : Bool) : oAdd (.int i) (.bl k) = .ok (.int (i + if k then 1 else 0)) := rfl
@[simp] theorem oAdd_r3 (xs : List PV) (ys : List PV) : oAdd (.lst xs) (.lst ys) = if xs.length + ys.length ≤ lim then .ok (.lst (xs ++ ys)) else .stuck := rfl
@[simp] theorem oAdd_r4 (x : Str) (y : Str) : oAdd (.str x) (.str y) = if x.length + y.length ≤ lim then .ok (.str (x ++ y)) else .stuck := rfl
def oCat : PV → PV → Rs PV
  | .lst xs, .lst ys => if xs.length + ys.length ≤ lim then .ok (.lst (xs ++ ys)) else .stuck
  | _, _ => .stuck
@[simp] theorem oCat_r1 (xs : List PV) (ys : List PV) : oCat (.lst xs) (.lst ys) = if xs.length + ys.length ≤ lim then .ok (.lst (xs ++ ys)) else .stuck := rfl
def oSub : PV → PV → Rs PV
  | .int i, .int j => .ok (.int (i - j))
  | _, _ => .stuck
@[simp] theorem oSub_r1 (i : Int) (j : Int) : oSub (.int i) (.int j) = .ok (.int (i - j)) := rfl
/-- the bound of products: together below 100,000,000 bits -/
def mulOk (i j : Int) : Bool := decide (i.natAbs.log2 + j.natAbs.log2 < 100000000)
def oMul : PV → PV → Rs PV
  | .int i, .int j => if mulOk i j then .ok (.int (i * j)) else .stuck
  | .lst xs, .int k => if k ≤ (lim : Int) ∧ xs.length * k.toNat ≤ lim ∧ -(lim : Int) ≤ k then .ok (.lst (List.replicate k.toNat xs).flatten) else .stuck
  | _, _ => .stuck
@[simp] theorem oMul_r1 (i : Int) (j : Int) : oMul (.int i) (.int j) = if mulOk i j then .ok (.int (i * j)) else .stuck := rfl
@[simp] theorem oMul_r2 (xs : List PV) (k : Int) : oMul (.lst xs) (.int k) = if k ≤ (lim : Int) ∧ xs.length * k.toNat ≤ lim ∧ -(lim : Int) ≤ k then .ok (.lst (List.replicate k.toNat xs).flatten) else .stuck := rfl
def oRep : PV → PV → Rs PV
  | .lst xs, .int k => if k ≤ (lim : Int) ∧ xs.length * k.toNat ≤ lim ∧ -(lim : Int) ≤ k then .ok (.lst (List.replicate k.toNat xs).flatten) else .stuck
  | _, _ => .stuck
@[simp] theorem oRep_r1 (xs : List PV) (k : Int) : oRep (.lst xs) (.int k) = if k ≤ (lim : Int) ∧ xs.length * k.toNat ≤ lim ∧ -(lim : Int) ≤ k then .ok (.lst (List.replicate k.toNat xs).flatten) else .stuck := rfl
def oDiv : PV → PV → Rs PV
  | .int i, .int j => if 0 < j ∧ (j.natAbs < 1073741824 ∨ j.natAbs.log2 < 9000) then .ok (.int (i / j)) else .stuck
  | _, _ => .stuck
@[simp] theorem oDiv_r1 (i : Int) (j : Int) : oDiv (.int i) (.int j) = if 0 < j ∧ (j.natAbs < 1073741824 ∨ j.natAbs.log2 < 9000) then .ok (.int (i / j)) else .stuck := rfl
def oMod : PV → PV → Rs PV
  | .int i, .int j => if 0 < j then .ok (.int (i % j)) else .stuck
  | _, _ => .stuck
@[simp] theorem oMod_r1 (i : Int) (j : Int) : oMod (.int i) (.int j) = if 0 < j then .ok (.int (i % j)) else .stuck := rfl
def oPow : PV → PV → Rs PV
  | .int i, .int j => if 0 ≤ j ∧ j.natAbs ≤ 1000000 ∧ i.natAbs < 18446744073709551616 then .ok (.int (i ^ j.toNat)) else .stuck
  | _, _ => .stuck
@[simp] theorem oPow_r1 (i : Int) (j : Int) : oPow (.int i) (.int j) = if 0 ≤ j ∧ j.natAbs ≤ 1000000 ∧ i.natAbs < 18446744073709551616 then .ok (.int (i ^ j.toNat)) else .stuck := rfl
def oAnd : PV → PV → Rs PV
  | .int i, .int j => .ok (.int (Builtin.bitAnd i j))
  | _, _ => .stuck
@[simp] theorem oAnd_r1 (i : Int) (j : Int) : oAnd (.int i) (.int j) = .ok (.int (Builtin.bitAnd i j)) := rfl
def oOr : PV → PV → Rs PV
  | .int i, .int j => .ok (.int (Builtin.bitOr i j))
  | _, _ => .stuck
@[simp] theorem oOr_r1 (i : Int) (j : Int) : oOr (.int i) (.int j) = .ok (.int (Builtin.bitOr i j)) := rfl
def oShl : PV → PV → Rs PV
  | .int i, .int j => if 0 ≤ j ∧ j.natAbs ≤ 1000000 ∧ i.natAbs < 18446744073709551616 then .ok (.int (i * 2 ^ j.toNat)) else .stuck
  | _, _ => .stuck
@[simp] theorem oShl_r1 (i : Int) (j : Int) : oShl (.int i) (.int j) = if 0 ≤ j ∧ j.natAbs ≤ 1000000 ∧ i.natAbs < 18446744073709551616 then .ok (.int (i * 2 ^ j.toNat)) else .stuck := rfl
def ioAdd : PV → PV → Rs PV
  | .int i, .int j => .ok (.int (i + j))
  | _, _ => .stuck
@[simp] theorem ioAdd_r1 (i : Int) (j : Int) : ioAdd (.int i) (.int j) = .ok (.int (i + j)) := rfl
theorem mulOk_ok {i j : Int} (h : mulOk i j = true) : IntMulOk i j := by
  have b : ∀ x : Int, Builtin.Int.intBits x ≤ x.natAbs.log2 + 1 := fun x => by
    unfold Builtin.Int.intBits
    split <;> omega
  have h1 := b i
  have h2 := b j
  have h3 : i.natAbs.log2 + j.natAbs.log2 < 100000000 := of_decide_eq_true h
  have e : bitsLine = 134217728 := by decide
  unfold IntMulOk
  intro z
  rw [Bool.and_eq_true] at z
  have z2 := z.2
  unfold Builtin.Int.intTooBig at z2
  have z3 := of_decide_eq_true z2
  rw [e] at z3
  omega
section
variable {P : Px}
theorem ite_ok {α : Type} {c : Prop} [Decidable c] {a : α} {E : Str → Prop} {Q : α → Prop} (h : (if c then Rs.ok a else Rs.stuck).wp E Q) : c ∧ Q a := by
  by_cases hc : c
  · rw [if_pos hc] at h; exact ⟨hc, h⟩
  · rw [if_neg hc] at h; exact h.elim
theorem o_add : Op2 P (binaryOp .Add) 0 oAdd := by
  intro pins s σ H x y v u Q I rx ry ⟨F, ω, a, b, w, ra, rb, h⟩
  cases a <;> cases b <;> first | exact False.elim h | skip
  case int.bl i k =>
    refine op_add_ib pins s σ H x y v u Q I rx ry ⟨i, k, ra.int, rb.bl, ?_⟩
    have e : PyProof.Rows.b2i k = if k then 1 else 0 := by cases k <;> rfl
    rw [e]; exact Val.of0 h w rfl
  case int.int i j => exact op_add pins s σ H x y v u Q I rx ry ⟨i, j, ra.int, rb.int, Val.of0 h w rfl⟩
  case str.str i j =>
    obtain ⟨hz, h⟩ := ite_ok h
    exact op_add_str pins s σ H x y v u Q I rx ry ⟨i, j, ra.str, rb.str, by rw [lim_eq]; exact hz, Val.of0 h w rfl⟩
  case lst.lst i j =>
    obtain ⟨hz, h⟩ := ite_ok h
    obtain ⟨p, vs, e1, e2, r1⟩ := ra.lst w
    obtain ⟨q, us, f1, f2, r2⟩ := rb.lst w
    exact op_cat pins s σ H x y v u Q I rx ry ⟨p, q, vs, us, e1, f1, e2, f2, by rw [lim_eq, r1.length, r2.length]; exact hz, Val.newL (by omega) h w (r1.append r2)⟩
theorem o_cat {d : Nat} (hd : d ≤ 1) : Op2 P (binaryOp .Add) d oCat := by
  intro pins s σ H x y v u Q I rx ry ⟨F, ω, a, b, w, ra, rb, h⟩
  cases a <;> cases b <;> first | exact False.elim h | skip
  case lst.lst i j =>
    obtain ⟨hz, h⟩ := ite_ok h
    obtain ⟨p, vs, e1, e2, r1⟩ := ra.lst w
    obtain ⟨q, us, f1, f2, r2⟩ := rb.lst w
    exact op_cat pins s σ H x y v u Q I rx ry ⟨p, q, vs, us, e1, f1, e2, f2, by rw [lim_eq, r1.length, r2.length]; exact hz, Val.newL hd h w (r1.append r2)⟩
theorem o_sub : Op2 P (binaryOp .Sub) 0 oSub := by
  intro pins s σ H x y v u Q I rx ry ⟨F, ω, a, b, w, ra, rb, h⟩
  cases a <;> cases b <;> first | exact False.elim h | skip
  case int.int i j => exact op_sub pins s σ H x y v u Q I rx ry ⟨i, j, ra.int, rb.int, Val.of0 h w rfl⟩
theorem op_mulX' {X : Cx} : OpR X (binaryOp .Mult) (rI (fun i j => mulOk i j = true) fun i j => .int (i * j)) := opI fun _ _ _ _ _ _ _ hc q => PyProof.Rows.mul_int q (mulOk_ok hc)
theorem rep_len {k : Int} {n m : Nat} (h : n * k.toNat ≤ m) {vs : List V} (e : vs.length = n) : vs.length * k.toNat ≤ m := by rw [e]; exact h
theorem o_mul : Op2 P (binaryOp .Mult) 0 oMul := by
  intro pins s σ H x y v u Q I rx ry ⟨F, ω, a, b, w, ra, rb, h⟩
  cases a <;> cases b <;> first | exact False.elim h | skip
  case int.int i j =>
    obtain ⟨hz, h⟩ := ite_ok h
    exact op_mulX' pins s σ H x y v u Q I rx ry ⟨i, j, ra.int, rb.int, hz, Val.of0 h w rfl⟩
  case lst.int i k =>
    obtain ⟨⟨h1, h2, h3⟩, h⟩ := ite_ok h
    obtain ⟨p, vs, e1, e2, r1⟩ := ra.lst w
    have e : (lim : Int) = 16777216 := rfl
    exact op_rep pins s σ H x y v u Q I rx ry ⟨p, k, vs, e1, rb.int, e2, by omega, by omega, by rw [lim_eq]; exact rep_len h2 r1.length, Val.newL (by omega) h w (r1.rep _)⟩
theorem o_rep {d : Nat} (hd : d ≤ 1) : Op2 P (binaryOp .Mult) d oRep := by
  intro pins s σ H x y v u Q I rx ry ⟨F, ω, a, b, w, ra, rb, h⟩
  cases a <;> cases b <;> first | exact False.elim h | skip
  case lst.int i k =>
    obtain ⟨⟨h1, h2, h3⟩, h⟩ := ite_ok h
    obtain ⟨p, vs, e1, e2, r1⟩ := ra.lst w
    have e : (lim : Int) = 16777216 := rfl
    exact op_rep pins s σ H x y v u Q I rx ry ⟨p, k, vs, e1, rb.int, e2, by omega, by omega, by rw [lim_eq]; exact rep_len h2 r1.length, Val.newL hd h w (r1.rep _)⟩
theorem o_div : Op2 P (binaryOp .FloorDiv) 0 oDiv := by
  intro pins s σ H x y v u Q I rx ry ⟨F, ω, a, b, w, ra, rb, h⟩
  cases a <;> cases b <;> first | exact False.elim h | skip
  case int.int i j =>
    obtain ⟨hz, h⟩ := ite_ok h
    have hz' : 0 < j ∧ j.natAbs.log2 < 9000 := ⟨hz.1, hz.2.elim (fun hs => Nat.lt_trans ((Nat.log2_lt (by omega)).mpr (show j.natAbs < 2 ^ 30 from hs)) (by omega)) id⟩
    exact op_fdivW pins s σ H x y v u Q I rx ry ⟨i, j, ra.int, rb.int, hz', Val.of0 h w rfl⟩
theorem o_mod : Op2 P (binaryOp .Mod) 0 oMod := by
  intro pins s σ H x y v u Q I rx ry ⟨F, ω, a, b, w, ra, rb, h⟩
  cases a <;> cases b <;> first | exact False.elim h | skip
  case int.int i j =>
    obtain ⟨hz, h⟩ := ite_ok h
    exact op_mod pins s σ H x y v u Q I rx ry ⟨i, j, ra.int, rb.int, hz, Val.of0 h w rfl⟩
theorem o_pow : Op2 P (binaryOp .Pow) 0 oPow := by
  intro pins s σ H x y v u Q I rx ry ⟨F, ω, a, b, w, ra, rb, h⟩
  cases a <;> cases b <;> first | exact False.elim h | skip
  case int.int i j =>
    obtain ⟨hz, h⟩ := ite_ok h
    exact op_pow pins s σ H x y v u Q I rx ry ⟨i, j, ra.int, rb.int, ⟨hz.1, by omega, hz.2.2⟩, Val.of0 h w rfl⟩
theorem o_and : Op2 P (binaryOp .BitAnd) 0 oAnd := by
  intro pins s σ H x y v u Q I rx ry ⟨F, ω, a, b, w, ra, rb, h⟩
  cases a <;> cases b <;> first | exact False.elim h | skip
  case int.int i j => exact op_and pins s σ H x y v u Q I rx ry ⟨i, j, ra.int, rb.int, Val.of0 h w rfl⟩
theorem o_or : Op2 P (binaryOp .BitOr) 0 oOr := by
  intro pins s σ H x y v u Q I rx ry ⟨F, ω, a, b, w, ra, rb, h⟩
  cases a <;> cases b <;> first | exact False.elim h | skip
  case int.int i j => exact op_or pins s σ H x y v u Q I rx ry ⟨i, j, ra.int, rb.int, Val.of0 h w rfl⟩
theorem o_shl : Op2 P (binaryOp .LShift) 0 oShl := by
  intro pins s σ H x y v u Q I rx ry ⟨F, ω, a, b, w, ra, rb, h⟩
  cases a <;> cases b <;> first | exact False.elim h | skip
  case int.int i j =>
    obtain ⟨hz, h⟩ := ite_ok h
    exact op_shl pins s σ H x y v u Q I rx ry ⟨i, j, ra.int, rb.int, ⟨hz.1, by omega, hz.2.2⟩, Val.of0 h w rfl⟩

/-! ### in place -/
theorem io_add : Op2 P (inplaceOp .Add) 0 ioAdd := by
  intro pins s σ H x y v u Q I rx ry ⟨F, ω, a, b, w, ra, rb, h⟩
  cases a <;> cases b <;> first | exact False.elim h | skip
  case int.int i j => exact iop_add pins s σ H x y v u Q I rx ry ⟨i, j, ra.int, rb.int, Val.of0 h w rfl⟩
theorem io_sub : Op2 P (inplaceOp .Sub) 0 oSub := by
  intro pins s σ H x y v u Q I rx ry ⟨F, ω, a, b, w, ra, rb, h⟩
  cases a <;> cases b <;> first | exact False.elim h | skip
  case int.int i j => exact iop_sub pins s σ H x y v u Q I rx ry ⟨i, j, ra.int, rb.int, Val.of0 h w rfl⟩

/-! ### comparisons -/
def oLt : PV → PV → Rs PV
  | .int i, .int j => .ok (.bl (decide (i < j)))
  | _, _ => .stuck
@[simp] theorem oLt_r1 (i : Int) (j : Int) : oLt (.int i) (.int j) = .ok (.bl (decide (i < j))) := rfl
def oLe : PV → PV → Rs PV
  | .int i, .int j => .ok (.bl (decide (i ≤ j)))
  | _, _ => .stuck
@[simp] theorem oLe_r1 (i : Int) (j : Int) : oLe (.int i) (.int j) = .ok (.bl (decide (i ≤ j))) := rfl
def oGt : PV → PV → Rs PV
  | .int i, .int j => .ok (.bl (decide (j < i)))
  | _, _ => .stuck
@[simp] theorem oGt_r1 (i : Int) (j : Int) : oGt (.int i) (.int j) = .ok (.bl (decide (j < i))) := rfl
def oGe : PV → PV → Rs PV
  | .int i, .int j => .ok (.bl (decide (j ≤ i)))
  | _, _ => .stuck
@[simp] theorem oGe_r1 (i : Int) (j : Int) : oGe (.int i) (.int j) = .ok (.bl (decide (j ≤ i))) := rfl
theorem o_lt : Op2 P (compareOp .Lt) 0 oLt := by
  intro pins s σ H x y v u Q I rx ry ⟨F, ω, a, b, w, ra, rb, h⟩
  cases a <;> cases b <;> first | exact False.elim h | skip
  case int.int i j => exact op_lt pins s σ H x y v u Q I rx ry ⟨i, j, ra.int, rb.int, Val.of0 h w rfl⟩
theorem o_le : Op2 P (compareOp .LtE) 0 oLe := by
  intro pins s σ H x y v u Q I rx ry ⟨F, ω, a, b, w, ra, rb, h⟩
  cases a <;> cases b <;> first | exact False.elim h | skip
  case int.int i j => exact op_le pins s σ H x y v u Q I rx ry ⟨i, j, ra.int, rb.int, Val.of0 h w rfl⟩
theorem o_gt : Op2 P (compareOp .Gt) 0 oGt := by
  intro pins s σ H x y v u Q I rx ry ⟨F, ω, a, b, w, ra, rb, h⟩
  cases a <;> cases b <;> first | exact False.elim h | skip
  case int.int i j => exact op_gt pins s σ H x y v u Q I rx ry ⟨i, j, ra.int, rb.int, Val.of0 h w rfl⟩
theorem o_ge : Op2 P (compareOp .GtE) 0 oGe := by
  intro pins s σ H x y v u Q I rx ry ⟨F, ω, a, b, w, ra, rb, h⟩
  cases a <;> cases b <;> first | exact False.elim h | skip
  case int.int i j => exact op_ge pins s σ H x y v u Q I rx ry ⟨i, j, ra.int, rb.int, Val.of0 h w rfl⟩
end
/-! as data -/
mutual
def toD : PV → PyData
  | .non => .none
  | .bl b => .bool b
  | .int i => .int i
  | .str x => .str x
  | .lst xs => .list (toDs xs)
  | .tup xs => .tuple (toDs xs)
  | .ro ns => .list (ns.map PyData.int)
def toDs : List PV → List PyData
  | [] => []
  | x :: xs => toD x :: toDs xs
end
section
variable {K : PySem.W.Frag} {F H : Hp}
theorem dp_ints : ∀ ns : List Int, DpAll K H (ns.map V.int) (ns.map PyData.int)
  | [] => .nil
  | n :: ns => .cons (.int n) (dp_ints ns)
mutual
theorem dp_of (f : Same F H) : ∀ {x : PV} {v : V}, Rep K F x v → Dp K H v (toD x)
  | .non, v, h => by rw [show v = .non from h]; exact .non
  | .bl b, v, h => by rw [show v = .bl b from h]; exact .bl b
  | .int i, v, h => by rw [show v = .int i from h]; exact .int i
  | .str x, v, h => by rw [show v = .str x from h]; exact .str x
  | .lst xs, _, ⟨a, vs, e, q, r⟩ => by subst e; exact .lst (SqL.of (f _ _ q)) (dps_of f r)
  | .tup xs, _, ⟨a, vs, e, q, r⟩ => by subst e; exact .tup (q.mono f).sq (dps_of f r)
  | .ro ns, _, ⟨a, e, q⟩ => by subst e; exact .lst (f.seq q) (dp_ints ns)
theorem dps_of (f : Same F H) : ∀ {xs : List PV} {vs : List V}, RepL K F xs vs → DpAll K H vs (toDs xs)
  | [], vs, h => by rw [show vs = [] from h]; exact .nil
  | x :: xs, _, ⟨v, r, e, p, q⟩ => by subst e; exact .cons (dp_of f p) (dps_of f q)
end
theorem dp_rv (f : Same F H) {x : PV} {v : V} (h : Rv K F H x v) : Dp K H v (toD x) := by
  rcases h with h | ⟨a, vs, xs, e, e2, q, r⟩
  · exact dp_of f h
  · subst e e2; exact .lst (SqL.of q) (dps_of f r)
end
def shp (x : PV) : Bool := SeqAt.shaped (toD x)
def peq (x y : PV) : Bool := PyData.eqv (toD x) (toD y)
@[simp] def oEq (x y : PV) : Rs PV := if shp x = true ∧ shp y = true then .ok (.bl (peq x y)) else .stuck
@[simp] def oNe (x y : PV) : Rs PV := if shp x = true ∧ shp y = true then .ok (.bl (!peq x y)) else .stuck
def oIs (x y : PV) : Rs PV := match x, y with
  | .bl a, .bl b => .ok (.bl (decide (a = b)))
  | .non, .non => .ok (.bl true)
  | .int _, .non | .bl _, .non | .str _, .non | .lst _, .non | .tup _, .non | .ro _, .non => .ok (.bl false)
  | _, _ => .stuck
@[simp] theorem oIs_r1 (a : Bool) (b : Bool) : oIs (.bl a) (.bl b) = .ok (.bl (decide (a = b))) := rfl
@[simp] theorem oIs_r2 : oIs (.non) (.non) = .ok (.bl true) := rfl
@[simp] theorem oIs_r3 (w1 : Int) : oIs (.int w1) (.non) = .ok (.bl false) := rfl
@[simp] theorem oIs_r4 (w2 : Bool) : oIs (.bl w2) (.non) = .ok (.bl false) := rfl
@[simp] theorem oIs_r5 (w3 : Str) : oIs (.str w3) (.non) = .ok (.bl false) := rfl
@[simp] theorem oIs_r6 (w4 : List PV) : oIs (.lst w4) (.non) = .ok (.bl false) := rfl
@[simp] theorem oIs_r7 (w5 : List PV) : oIs (.tup w5) (.non) = .ok (.bl false) := rfl
@[simp] theorem oIs_r8 (w6 : List Int) : oIs (.ro w6) (.non) = .ok (.bl false) := rfl
def oIsNot (x y : PV) : Rs PV := match x, y with
  | .bl a, .bl b => .ok (.bl (!decide (a = b)))
  | .non, .non => .ok (.bl false)
  | .int _, .non | .bl _, .non | .str _, .non | .lst _, .non | .tup _, .non | .ro _, .non => .ok (.bl true)
  | _, _ => .stuck
@[simp] theorem oIsNot_r1 (a : Bool) (b : Bool) : oIsNot (.bl a) (.bl b) = .ok (.bl (!decide (a = b))) := rfl
@[simp] theorem oIsNot_r2 : oIsNot (.non) (.non) = .ok (.bl false) := rfl
@[simp] theorem oIsNot_r3 (w1 : Int) : oIsNot (.int w1) (.non) = .ok (.bl true) := rfl
@[simp] theorem oIsNot_r4 (w2 : Bool) : oIsNot (.bl w2) (.non) = .ok (.bl true) := rfl
@[simp] theorem oIsNot_r5 (w3 : Str) : oIsNot (.str w3) (.non) = .ok (.bl true) := rfl
@[simp] theorem oIsNot_r6 (w4 : List PV) : oIsNot (.lst w4) (.non) = .ok (.bl true) := rfl
@[simp] theorem oIsNot_r7 (w5 : List PV) : oIsNot (.tup w5) (.non) = .ok (.bl true) := rfl
@[simp] theorem oIsNot_r8 (w6 : List Int) : oIsNot (.ro w6) (.non) = .ok (.bl true) := rfl
@[simp] def oIn (x y : PV) : Rs PV := match y with
  | .lst ys => if shp x = true ∧ shp (.lst ys) = true then .ok (.bl (ys.any fun z => peq z x)) else .stuck
  | _ => .stuck
@[simp] def oNotIn (x y : PV) : Rs PV := match y with
  | .lst ys => if shp x = true ∧ shp (.lst ys) = true then .ok (.bl (!ys.any fun z => peq z x)) else .stuck
  | _ => .stuck
theorem any_toDs (p : PyData → Bool) : ∀ ys : List PV, (toDs ys).any p = ys.any fun z => p (toD z)
  | [] => rfl
  | y :: ys => by
    rw [toDs, List.any_cons, List.any_cons, any_toDs p ys]
section
variable {P : Px}
theorem o_eq (hu : P.X.A.units + 64 < cLine) : Op2 P (compareOp .Eq) 0 oEq := by
  intro pins s σ H x y v u Q I rx ry ⟨F, ω, a, b, w, ra, rb, h⟩
  obtain ⟨⟨h1, h2⟩, h⟩ := ite_ok h
  exact op_eqD hu pins s σ H x y v u Q I rx ry ⟨toD a, toD b, dp_rv w.f ra, dp_rv w.f rb, h1, h2, Val.of0 h w rfl⟩
theorem o_ne (hu : P.X.A.units + 64 < cLine) : Op2 P (compareOp .NotEq) 0 oNe := by
  intro pins s σ H x y v u Q I rx ry ⟨F, ω, a, b, w, ra, rb, h⟩
  obtain ⟨⟨h1, h2⟩, h⟩ := ite_ok h
  exact op_neD hu pins s σ H x y v u Q I rx ry ⟨toD a, toD b, dp_rv w.f ra, dp_rv w.f rb, h1, h2, Val.of0 h w rfl⟩
theorem rv_ref {K : PySem.W.Frag} {F H : Hp} {x : PV} {v : V} (h : Rv K F H x v) (n : (∃ xs, x = .lst xs) ∨ (∃ xs, x = .tup xs) ∨ ∃ ns, x = .ro ns) : ∃ a, v = .ref a := by
  rcases h with h | ⟨a, vs, xs, e, e2, q, r⟩
  · rcases n with ⟨xs, rfl⟩ | ⟨xs, rfl⟩ | ⟨xs, rfl⟩
    · obtain ⟨a, vs, e, _⟩ := h; exact ⟨a, e⟩
    · obtain ⟨a, vs, e, _⟩ := h; exact ⟨a, e⟩
    · obtain ⟨a, e, _⟩ := h; exact ⟨a, e⟩
  · exact ⟨a, e2⟩
theorem o_is : Op2 P (compareOp .Is) 0 oIs := by
  intro pins s σ H x y v u Q I rx ry ⟨F, ω, a, b, w, ra, rb, h⟩
  cases b with
  | non =>
    refine op_isN pins s σ H x y v u Q I rx ry ⟨rb.non, ?_⟩
    cases a with
    | non => rw [ra.non]; exact Val.of0 h w rfl
    | bl k => rw [ra.bl]; exact Val.of0 h w rfl
    | int k => rw [ra.int]; exact Val.of0 h w rfl
    | str k => rw [ra.str]; exact Val.of0 h w rfl
    | lst k => obtain ⟨q, e⟩ := rv_ref ra (.inl ⟨_, rfl⟩); rw [e]; exact Val.of0 h w rfl
    | tup k => obtain ⟨q, e⟩ := rv_ref ra (.inr (.inl ⟨_, rfl⟩)); rw [e]; exact Val.of0 h w rfl
    | ro k => obtain ⟨q, e⟩ := rv_ref ra (.inr (.inr ⟨_, rfl⟩)); rw [e]; exact Val.of0 h w rfl
  | bl k =>
    cases a with
    | bl j => exact op_is_bl pins s σ H x y v u Q I rx ry ⟨j, k, ra.bl, rb.bl, Val.of0 h w rfl⟩
    | _ => exact False.elim h
  | _ => cases a <;> exact False.elim h
theorem o_isnot : Op2 P (compareOp .IsNot) 0 oIsNot := by
  intro pins s σ H x y v u Q I rx ry ⟨F, ω, a, b, w, ra, rb, h⟩
  cases b with
  | non =>
    refine op_notN pins s σ H x y v u Q I rx ry ⟨rb.non, ?_⟩
    cases a with
    | non => rw [ra.non]; exact Val.of0 h w rfl
    | bl k => rw [ra.bl]; exact Val.of0 h w rfl
    | int k => rw [ra.int]; exact Val.of0 h w rfl
    | str k => rw [ra.str]; exact Val.of0 h w rfl
    | lst k => obtain ⟨q, e⟩ := rv_ref ra (.inl ⟨_, rfl⟩); rw [e]; exact Val.of0 h w rfl
    | tup k => obtain ⟨q, e⟩ := rv_ref ra (.inr (.inl ⟨_, rfl⟩)); rw [e]; exact Val.of0 h w rfl
    | ro k => obtain ⟨q, e⟩ := rv_ref ra (.inr (.inr ⟨_, rfl⟩)); rw [e]; exact Val.of0 h w rfl
  | bl k =>
    cases a with
    | bl j => exact op_isnot_bl pins s σ H x y v u Q I rx ry ⟨j, k, ra.bl, rb.bl, Val.of0 h w rfl⟩
    | _ => exact False.elim h
  | _ => cases a <;> exact False.elim h
theorem o_in (hu : P.X.A.units + 65 < cLine) : Op2 P (compareOp .In) 0 oIn := by
  intro pins s σ H x y v u Q I rx ry ⟨F, ω, a, b, w, ra, rb, h⟩
  cases b <;> first | exact False.elim h | skip
  obtain ⟨⟨h1, h2⟩, h⟩ := ite_ok h
  refine op_inD hu pins s σ H x y v u Q I rx ry ⟨toD a, _, dp_rv w.f ra, dp_rv w.f rb, h1, h2, ?_⟩
  rw [any_toDs]; exact Val.of0 h w rfl
theorem o_notin (hu : P.X.A.units + 65 < cLine) : Op2 P (compareOp .NotIn) 0 oNotIn := by
  intro pins s σ H x y v u Q I rx ry ⟨F, ω, a, b, w, ra, rb, h⟩
  cases b <;> first | exact False.elim h | skip
  obtain ⟨⟨h1, h2⟩, h⟩ := ite_ok h
  refine op_notInD hu pins s σ H x y v u Q I rx ry ⟨toD a, _, dp_rv w.f ra, dp_rv w.f rb, h1, h2, ?_⟩
  rw [any_toDs]; exact Val.of0 h w rfl
end
end Pw

namespace Pw
open PySem L2
/-! ### tests -/
section
variable {P : Px} {ds : List Nat} {pos : Pos} {a b c e : Expr} {rest es : List Expr}
def QW (P : Px) (ds : List Nat) (e : Expr) (f : Env → Rs Bool) : Prop := PW P.X e (liftT P ds f)
theorem QW.t {f : Env → Rs Bool} (h : QW P ds e f) : QT P ds e f := h.pt
@[simp] def tNotD (f : Env → Rs Bool) (env : Env) : Rs Bool := (f env).bind fun k => .ok (!k)
@[simp] def tAndD (f g : Env → Rs Bool) (env : Env) : Rs Bool := (f env).bind fun k => if k = true then g env else .ok false
@[simp] def tOrD (f g : Env → Rs Bool) (env : Env) : Rs Bool := (f env).bind fun k => if k = true then .ok true else g env
theorem qt_not {f : Env → Rs Bool} (h : QT P ds a f) : QT P ds (.UnaryOp .Not a pos) (tNotD f) :=
  PT.imp (pt_not h) fun σ H Q ⟨F, ω, env, r, q⟩ => liftT.to r (Rs.wp_bind.mp q) (fun _ z => z) fun k hk => hk
theorem qw_and1 {f : Env → Rs Bool} (h : QT P ds a f) : QW P ds (.BoolOp .And [a] pos) f := pw_and1 h
theorem qw_or1 {f : Env → Rs Bool} (h : QT P ds a f) : QW P ds (.BoolOp .Or [a] pos) f := pw_or1 h
theorem qw_and {f g : Env → Rs Bool} (h : QT P ds a f) (k : QW P ds (.BoolOp .And (b :: rest) pos) g) : QW P ds (.BoolOp .And (a :: b :: rest) pos) (tAndD f g) :=
  PW.imp (pw_and h k) fun σ H Q ⟨F, ω, env, r, q⟩ => liftT.to r (Rs.wp_bind.mp q) (fun _ z => z) fun k hk F' ω' H' l w => by
    cases k with
    | true =>
      rw [if_pos rfl] at hk ⊢
      exact liftT.to (r.mono l w) hk (fun c z => z.mono l.h) fun x hx F2 ω2 H2 l2 w2 => hx F2 ω2 H2 (l.trans l2) w2
    | false =>
      rw [if_neg Bool.false_ne_true] at hk ⊢
      exact hk F' ω' H' l w
theorem qw_or {f g : Env → Rs Bool} (h : QT P ds a f) (k : QW P ds (.BoolOp .Or (b :: rest) pos) g) : QW P ds (.BoolOp .Or (a :: b :: rest) pos) (tOrD f g) :=
  PW.imp (pw_or h k) fun σ H Q ⟨F, ω, env, r, q⟩ => liftT.to r (Rs.wp_bind.mp q) (fun _ z => z) fun k hk F' ω' H' l w => by
    cases k with
    | false =>
      rw [if_neg Bool.false_ne_true] at hk ⊢
      exact liftT.to (r.mono l w) hk (fun c z => z.mono l.h) fun x hx F2 ω2 H2 l2 w2 => hx F2 ω2 H2 (l.trans l2) w2
    | true =>
      rw [if_pos rfl] at hk ⊢
      exact hk F' ω' H' l w
/-! a value's truth -/
def tru : PV → Rs Bool
  | .non => .ok false
  | .bl b => .ok b
  | .int i => .ok (i != 0)
  | .str x => if x.length ≤ lim then .ok ((x.length : Int) != 0) else .stuck
  | .lst xs => .ok (!xs.isEmpty)
  | .tup xs => .ok (!xs.isEmpty)
  | .ro ns => .ok (!ns.isEmpty)
@[simp] theorem tru_r1 : tru (.non) = .ok false := rfl
@[simp] theorem tru_r2 (b : Bool) : tru (.bl b) = .ok b := rfl
@[simp] theorem tru_r3 (i : Int) : tru (.int i) = .ok (i != 0) := rfl
@[simp] theorem tru_r4 (x : Str) : tru (.str x) = if x.length ≤ lim then .ok ((x.length : Int) != 0) else .stuck := rfl
@[simp] theorem tru_r5 (xs : List PV) : tru (.lst xs) = .ok (!xs.isEmpty) := rfl
@[simp] theorem tru_r6 (xs : List PV) : tru (.tup xs) = .ok (!xs.isEmpty) := rfl
@[simp] theorem tru_r7 (ns : List Int) : tru (.ro ns) = .ok (!ns.isEmpty) := rfl
@[simp] def eTru (f : Env → Rs PV) (env : Env) : Rs Bool := (f env).bind tru
theorem empty_eq {K : PySem.W.Frag} {F : Hp} : ∀ {xs : List PV} {vs : List V}, RepL K F xs vs → vs.isEmpty = xs.isEmpty
  | [], vs, h => by rw [show vs = [] from h]; rfl
  | x :: xs, _, ⟨v, r, e, _, _⟩ => by rw [e]; rfl
theorem qt_tru {f : Env → Rs PV} (h : QE P ds 3 e f) (he : ∀ whole, isTrue e P.X.env whole = (do let v ← whole; standAt e.pos; holding [v] (truthy v)) := by intro _; rfl) : QT P ds e (eTru f) :=
  PT.imp (pt_truth h he) fun σ H Q ⟨F, ω, env, r, q⟩ => lift.to r (Rs.wp_bind.mp q) (fun _ z => z) fun x hx F' ω' H' v l w s _ => by
    have s : Rv P.X.K F' H' x v := s
    cases x with
    | non => rw [s.non]; exact ⟨_, rfl, hx F' ω' H' l w⟩
    | bl k => rw [s.bl]; exact ⟨_, rfl, hx F' ω' H' l w⟩
    | int k => rw [s.int]; exact ⟨_, rfl, hx F' ω' H' l w⟩
    | str k =>
      obtain ⟨hz, hx⟩ := ite_ok hx
      rw [s.str]; exact ⟨_, ⟨by rw [lim_eq]; exact hz, rfl⟩, hx F' ω' H' l w⟩
    | lst k =>
      obtain ⟨p, vs, e1, e2, rr⟩ := s.lst w
      rw [e1]; exact ⟨_, .inl ⟨vs, SqL.of e2, rfl⟩, by rw [empty_eq rr]; exact hx F' ω' H' l w⟩
    | tup k =>
      obtain ⟨p, vs, e1, e2, rr⟩ := s.tup w
      rw [e1]; exact ⟨_, .inr (.inl ⟨vs, e2.sq, rfl⟩), by rw [empty_eq rr]; exact hx F' ω' H' l w⟩
    | ro k =>
      obtain ⟨p, e1, e2⟩ := s.ro w
      rw [e1]; exact ⟨_, .inl ⟨_, e2, rfl⟩, by rw [show (k.map V.int).isEmpty = k.isEmpty by cases k <;> rfl]; exact hx F' ω' H' l w⟩

/-! ### and, or, not of bools as values; conditional expressions -/
@[simp] def eNot (f : Env → Rs PV) (env : Env) : Rs PV := (f env).bind fun x => match x with
  | .bl k => .ok (.bl (!k))
  | _ => .stuck
@[simp] def eAnd (f g : Env → Rs PV) (env : Env) : Rs PV := (f env).bind fun x => match x with
  | .bl k => if k = true then g env else .ok (.bl false)
  | _ => .stuck
@[simp] def eOr (f g : Env → Rs PV) (env : Env) : Rs PV := (f env).bind fun x => match x with
  | .bl k => if k = true then .ok (.bl true) else g env
  | _ => .stuck
theorem qe_not {f : Env → Rs PV} (h : QE P ds 0 a f) : QE P ds 0 (.UnaryOp .Not a pos) (eNot f) :=
  PE.imp (pe_not h) fun σ H Q ⟨F, ω, env, r, q⟩ => lift.to r (Rs.wp_bind.mp q) (fun _ z => z) fun x hx F' ω' H' v l w s _ => by
    cases x with
    | bl k => exact ⟨k, s, hx F' ω' H' _ l w rfl (by omega)⟩
    | _ => exact hx.elim
theorem qe_one {op} {d : Nat} {f : Env → Rs PV} (h : QE P ds d a f) : QE P ds d (.BoolOp op [a] pos) f := pe_one h
theorem qe_and {f g : Env → Rs PV} (h : QE P ds 0 a f) (k : QE P ds 0 (.BoolOp .And (b :: rest) pos) g) : QE P ds 0 (.BoolOp .And (a :: b :: rest) pos) (eAnd f g) :=
  PE.imp (pe_and h k) fun σ H Q ⟨F, ω, env, r, q⟩ => lift.to r (Rs.wp_bind.mp q) (fun _ z => z) fun x hx F' ω' H' v l w s _ => by
    cases x with
    | bl k =>
      refine ⟨k, s, ?_⟩
      cases k with
      | true =>
        rw [if_pos rfl] 
        exact lift.to (r.mono l w) (show (g env).wp _ _ from hx) (fun c z => z.mono l.h) fun x hx => hx.mono l
      | false =>
        rw [if_neg Bool.false_ne_true]
        exact hx F' ω' H' _ l w rfl (by omega)
    | _ => exact hx.elim
theorem qe_or {f g : Env → Rs PV} (h : QE P ds 0 a f) (k : QE P ds 0 (.BoolOp .Or (b :: rest) pos) g) : QE P ds 0 (.BoolOp .Or (a :: b :: rest) pos) (eOr f g) :=
  PE.imp (pe_or h k) fun σ H Q ⟨F, ω, env, r, q⟩ => lift.to r (Rs.wp_bind.mp q) (fun _ z => z) fun x hx F' ω' H' v l w s _ => by
    cases x with
    | bl k =>
      refine ⟨k, s, ?_⟩
      cases k with
      | false =>
        rw [if_neg Bool.false_ne_true]
        exact lift.to (r.mono l w) (show (g env).wp _ _ from hx) (fun c z => z.mono l.h) fun x hx => hx.mono l
      | true =>
        rw [if_pos rfl]
        exact hx F' ω' H' _ l w rfl (by omega)
    | _ => exact hx.elim
@[simp] def eIf (t : Env → Rs Bool) (f g : Env → Rs PV) (env : Env) : Rs PV := (t env).bind fun k => if k = true then f env else g env
theorem qe_if {d : Nat} {t : Env → Rs Bool} {f g : Env → Rs PV} (hc : QT P ds c t) (ha : QE P ds d a f) (hb : QE P ds d b g) : QE P ds d (.IfExp c a b pos) (eIf t f g) :=
  PE.imp (pe_ifExp hc ha hb) fun σ H Q ⟨F, ω, env, r, q⟩ => liftT.to r (Rs.wp_bind.mp q) (fun _ z => z) fun k hk F' ω' H' l w => by
    cases k with
    | true => rw [if_pos rfl] at hk ⊢; exact lift.to (r.mono l w) hk (fun c z => z.mono l.h) fun x hx => hx.mono l
    | false => rw [if_neg Bool.false_ne_true] at hk ⊢; exact lift.to (r.mono l w) hk (fun c z => z.mono l.h) fun x hx => hx.mono l
@[simp] def eNeg (f : Env → Rs PV) (env : Env) : Rs PV := (f env).bind fun x => match x with
  | .int i => .ok (.int (-i))
  | _ => .stuck
theorem qe_neg {f : Env → Rs PV} (h : QE P ds 0 a f) : QE P ds 0 (.UnaryOp .USub a pos) (eNeg f) :=
  PE.imp (pe_un un_neg h) fun σ H Q ⟨F, ω, env, r, q⟩ => lift.to r (Rs.wp_bind.mp q) (fun _ z => z) fun x hx F' ω' H' v l w s _ => by
    cases x with
    | int k => exact ⟨k, s, hx F' ω' H' _ l w rfl (by omega)⟩
    | _ => exact hx.elim
/-! chains -/
@[simp] def eChain (o o' : PV → PV → Rs PV) (fa fb fc : Env → Rs PV) (env : Env) : Rs PV := (fa env).bind fun x => (fb env).bind fun y => (o x y).noexc.bind fun z => (tst z).bind fun k => if k = true then (fc env).bind fun u => (o' y u).noexc else .ok (.bl false)
theorem chain_to {o o' : PV → PV → Rs PV} {fa fb fc : Env → Rs PV} {σ : St} {H : Hp} {Q : VK} {F : Hp} {ω : Om} {env : Env} (r : Rel P.X.K P.G ds F ω env σ H) (h : (eChain o o' fa fb fc env).wp (fun c => ExcW P c σ H) fun x => Val P 0 F ω H x Q) :
    tChain (fun x y H Q => ∃ F ω a b, Wd P.G F ω H ∧ Rv P.X.K F H a x ∧ Rv P.X.K F H b y ∧ (o a b).wp (fun _ => False) fun z => Val P 0 F ω H z Q) (fun x y H Q => ∃ F ω a b, Wd P.G F ω H ∧ Rv P.X.K F H a x ∧ Rv P.X.K F H b y ∧ (o' a b).wp (fun _ => False) fun z => Val P 0 F ω H z Q)
      (lift P ds 3 fa) (lift P ds 3 fb) (lift P ds 3 fc) σ H Q := by
  refine bin_to (a := .Constant .none 0 ⟨0, 0, 0, 0⟩) (b := .Constant .none 0 ⟨0, 0, 0, 0⟩) r h fun F1 ω1 H1 x y v u l w s1 s2 q => ⟨F1, ω1, x, y, w, s1, s2, Rs.wp_mono (noexc_wp' (Rs.wp_bind.mp q)) (fun _ z => z) fun z hz => ?_⟩
  intro F2 ω2 H2 v2 l2 w2 s3 _
  cases z with
  | bl k =>
    refine ⟨k, s3, ?_⟩
    have l3 := l.trans l2
    cases k with
    | true =>
      rw [if_pos rfl]
      refine lift.to (r.mono l3 w2) (Rs.wp_bind.mp (show ((fc env).bind fun u => (o' y u).noexc).wp _ _ from hz)) (fun c z => z.mono l3.h) fun u' hu F4 ω4 H4 v4 l4 w4 s4 _ => ?_
      exact ⟨F4, ω4, y, u', w4, Rv.mono (l2.trans l4).f (l2.trans l4).h s2, s4, Rs.wp_mono (noexc_wp hu) (fun _ z => z) fun z hz => hz.mono (l3.trans l4)⟩
    | false =>
      rw [if_neg Bool.false_ne_true]
      exact hz F2 ω2 H2 _ l3 w2 rfl (by omega)
  | _ => exact hz.elim
where
  noexc_wp' {α : Type} {r : Rs α} {E : Str → Prop} {Q : α → Prop} (h : r.noexc.wp E Q) : r.wp (fun _ => False) Q := noexc_wp h
theorem qe_chain {op op' : CmpOp} {o o' : PV → PV → Rs PV} {fa fb fc : Env → Rs PV} (ho : Op2 P (compareOp op) 0 o) (ho' : Op2 P (compareOp op') 0 o') (ha : QE P ds 3 a fa) (hb : QE P ds 3 b fb) (hc : QE P ds 3 c fc)
    (hm : lastMarks [op, op'] [b, c] = false := by with_unfolding_all rfl) : QE P ds 0 (.Compare a [op, op'] [b, c] pos) (eChain o o' fa fb fc) :=
  PE.imp (pe_chain ho ho' ha hb hc hm) fun σ H Q ⟨F, ω, env, r, h⟩ => chain_to r h
theorem qt_chain {op op' : CmpOp} {o o' : PV → PV → Rs PV} {fa fb fc : Env → Rs PV} (ho : Op2 P (compareOp op) 0 o) (ho' : Op2 P (compareOp op') 0 o') (ha : QE P ds 3 a fa) (hb : QE P ds 3 b fb) (hc : QE P ds 3 c fc)
    (hm : lastMarks [op, op'] [b, c] = false := by with_unfolding_all rfl) : QT P ds (.Compare a [op, op'] [b, c] pos) (eT (eChain o o' fa fb fc)) :=
  PT.imp (pt_chain ho ho' ha hb hc hm) fun σ H Q ⟨F, ω, env, r, h⟩ => chain_to r (Rs.wp_mono (Rs.wp_bind.mp h) (fun _ z => z) fun x hx => tst_val hx)

/-! ### argument lists, displays -/
@[simp] def aNil (_ : Env) : Rs (List PV) := .ok []
@[simp] def aCons (f : Env → Rs PV) (g : Env → Rs (List PV)) (env : Env) : Rs (List PV) := (f env).bind fun x => (g env).bind fun xs => .ok (x :: xs)
theorem aNil_len : ∀ env xs, aNil env = .ok xs → xs.length = ([] : List Expr).length := fun env xs h => by cases h; rfl
theorem aCons_len {f : Env → Rs PV} {g : Env → Rs (List PV)} (h : ∀ env xs, g env = .ok xs → xs.length = es.length) : ∀ env xs, aCons f g env = .ok xs → xs.length = (e :: es).length := fun env xs q => by
  unfold aCons at q
  cases h1 : f env with
  | stuck => rw [h1] at q; cases q
  | exc c => rw [h1] at q; cases q
  | ok x =>
    cases h2 : g env with
    | stuck => rw [h1, h2] at q; cases q
    | exc c => rw [h1, h2] at q; cases q
    | ok ys => rw [h1, h2] at q; cases q; rw [List.length_cons, List.length_cons, h env ys h2]
theorem qa_nil : QA P ds [] aNil := ⟨PA.imp pa_nil fun σ H Q ⟨F, ω, env, r, q⟩ => q F ω H [] (.refl F ω H) r.wd rfl, aNil_len⟩
theorem qa_cons {f : Env → Rs PV} {g : Env → Rs (List PV)} (ha : QE P ds 0 e f) (hr : QA P ds es g) (hs : starEach (e :: es) P.X.env = (false, eval e P.X.env) :: starEach es P.X.env := by rfl) : QA P ds (e :: es) (aCons f g) := ⟨
  PA.imp (pa_cons ha hr.1 hs) fun σ H Q ⟨F, ω, env, r, q⟩ => by
    refine lift.to r (Rs.wp_bind.mp q) (fun _ z => z) fun x hx F1 ω1 H1 v l1 w1 s1 _ => ?_
    refine liftA.to (r.mono l1 w1) (Rs.wp_bind.mp hx) (fun c z => z.mono l1.h) fun xs hxs F2 ω2 H2 vs l2 w2 s2 => ?_
    exact hxs F2 ω2 H2 (v :: vs) (l1.trans l2) w2 (RepL.cons (Rep.mono l2.f s1) s2), aCons_len hr.2⟩
def RvL (K : PySem.W.Frag) (F H : Hp) : List PV → List V → Prop
  | [], vs => vs = []
  | x :: xs, vs => ∃ v r, vs = v :: r ∧ Rv K F H x v ∧ RvL K F H xs r
theorem RvL.mono {K : PySem.W.Frag} {F F' H H' : Hp} (f : Same F F') (h : Same H H') : ∀ {xs : List PV} {vs : List V}, RvL K F H xs vs → RvL K F' H' xs vs
  | [], _, q => q
  | x :: xs, _, ⟨v, r, e, p, q⟩ => ⟨v, r, e, p.mono f h, q.mono f h⟩
/-- arguments to be read alone -/
def liftB (P : Px) (ds : List Nat) (f : Env → Rs (List PV)) : TA := fun σ H Q => ∃ F ω env, Rel P.X.K P.G ds F ω env σ H ∧ (f env).wp (fun c => ExcW P c σ H) fun xs => ∀ F' ω' H' vs, Le F ω H F' ω' H' → Wd P.G F' ω' H' → RvL P.X.K F' H' xs vs → Q vs H'
def QR (P : Px) (ds : List Nat) (es : List Expr) (f : Env → Rs (List PV)) : Prop := PA P.X es (liftB P ds f) ∧ ∀ env xs, f env = .ok xs → xs.length = es.length
theorem liftB.to {f : Env → Rs (List PV)} {F : Hp} {ω : Om} {env : Env} {σ : St} {H : Hp} {Q : List V → Hp → Prop} (r : Rel P.X.K P.G ds F ω env σ H) {E : Str → Prop} {R : List PV → Prop} (h : (f env).wp E R)
    (hE : ∀ c, E c → ExcW P c σ H) (hQ : ∀ xs, R xs → ∀ F' ω' H' vs, Le F ω H F' ω' H' → Wd P.G F' ω' H' → RvL P.X.K F' H' xs vs → Q vs H') : liftB P ds f σ H Q := ⟨F, ω, env, r, Rs.wp_mono h hE hQ⟩
theorem qr_nil : QR P ds [] aNil := ⟨PA.imp pa_nil fun σ H Q ⟨F, ω, env, r, q⟩ => q F ω H [] (.refl F ω H) r.wd rfl, aNil_len⟩
theorem qr_cons {f : Env → Rs PV} {g : Env → Rs (List PV)} (ha : QE P ds 3 e f) (hr : QR P ds es g) (hs : starEach (e :: es) P.X.env = (false, eval e P.X.env) :: starEach es P.X.env := by rfl) : QR P ds (e :: es) (aCons f g) := ⟨
  PA.imp (pa_cons ha hr.1 hs) fun σ H Q ⟨F, ω, env, r, q⟩ => by
    refine lift.to r (Rs.wp_bind.mp q) (fun _ z => z) fun x hx F1 ω1 H1 v l1 w1 s1 _ => ?_
    refine liftB.to (r.mono l1 w1) (Rs.wp_bind.mp hx) (fun c z => z.mono l1.h) fun xs hxs F2 ω2 H2 vs l2 w2 s2 => ?_
    exact hxs F2 ω2 H2 (v :: vs) (l1.trans l2) w2 ⟨v, vs, rfl, Rv.mono l2.f l2.h s1, s2⟩, aCons_len hr.2⟩
@[simp] def eTup (f : Env → Rs (List PV)) (env : Env) : Rs PV := (f env).bind fun xs => if xs.length ≤ lim then .ok (.tup xs) else .stuck
@[simp] def eLst (f : Env → Rs (List PV)) (env : Env) : Rs PV := (f env).bind fun xs => if xs.length ≤ lim then .ok (.lst xs) else .stuck
theorem qe_tup {k : Nat} {f : Env → Rs (List PV)} (h : QA P ds es f) : QE P ds 0 (.Tuple es k pos) (eTup f) :=
  PE.imp (pe_tup h.1) fun σ H Q ⟨F, ω, env, r, q⟩ => liftA.to r (Rs.wp_bind.mp q) (fun _ z => z) fun xs hx F' ω' H' vs l w s => by
    obtain ⟨hz, hx⟩ := ite_ok hx
    exact ⟨by rw [lim_eq, s.length]; exact hz, Val.newT (hx.mono l) w s⟩
theorem qe_lst {d : Nat} (hd : d ≤ 1) {f : Env → Rs (List PV)} (h : QA P ds es f) : QE P ds d (.List es pos) (eLst f) :=
  PE.imp (pe_lst h.1) fun σ H Q ⟨F, ω, env, r, q⟩ => liftA.to r (Rs.wp_bind.mp q) (fun _ z => z) fun xs hx F' ω' H' vs l w s => by
    obtain ⟨hz, hx⟩ := ite_ok hx
    exact ⟨by rw [lim_eq, s.length]; exact hz, Val.newL hd (hx.mono l) w s⟩

/-! ### items, slices -/
def oIx : PV → PV → Rs PV
  | .lst xs, .int i => .opt (atI xs i)
  | .tup xs, .int i => .opt (atI xs i)
  | .ro ns, .int i => .opt ((atI ns i).map PV.int)
  | .str z, .int i => if z.length ≤ lim then .opt ((atI z.cps.toList i).map fun c => .str ⟨#[c]⟩) else .stuck
  | _, _ => .stuck
@[simp] theorem oIx_r1 (xs : List PV) (i : Int) : oIx (.lst xs) (.int i) = .opt (atI xs i) := rfl
@[simp] theorem oIx_r2 (xs : List PV) (i : Int) : oIx (.tup xs) (.int i) = .opt (atI xs i) := rfl
@[simp] theorem oIx_r3 (ns : List Int) (i : Int) : oIx (.ro ns) (.int i) = .opt ((atI ns i).map PV.int) := rfl
@[simp] theorem oIx_r4 (z : Str) (i : Int) : oIx (.str z) (.int i) = if z.length ≤ lim then .opt ((atI z.cps.toList i).map fun c => .str ⟨#[c]⟩) else .stuck := rfl
theorem RepL.atI {K : PySem.W.Frag} {F : Hp} {xs : List PV} {vs : List V} {i : Int} {x : PV} (h : RepL K F xs vs) (e : L2.atI xs i = some x) : ∃ v, L2.atI vs i = some v ∧ Rep K F x v := by
  unfold L2.atI at e ⊢
  rw [h.length]
  cases q : ixN xs.length i with
  | none => rw [q] at e; cases e
  | some j =>
    rw [q] at e
    exact h.get (show xs[j]? = some x from e)
theorem atI_map {α β : Type} (f : α → β) (xs : List α) (i : Int) : L2.atI (xs.map f) i = (L2.atI xs i).map f := by
  unfold L2.atI
  rw [List.length_map]
  cases ixN xs.length i with
  | none => rfl
  | some j => show (xs.map f)[j]? = _; rw [List.getElem?_map]; rfl
theorem ix_ok (P : Px) : IxR P.X fun x y H Q => ∃ F ω a b, Wd P.G F ω H ∧ Rv P.X.K F H a x ∧ Rv P.X.K F H b y ∧ (oIx a b).wp (fun _ => False) fun z => Val P 0 F ω H z Q := by
  intro value slice pins s σ H x y v u Q I rx ry ⟨F, ω, a, b, w, ra, rb, h⟩
  refine ix_seq value slice pins s σ H x y v u Q I rx ry ?_
  cases b <;> first | (cases a <;> exact False.elim h) | skip
  case int i =>
  have ei := rb.int
  cases a <;> first | exact False.elim h | skip
  case lst xs =>
    obtain ⟨p, vs, e1, e2, r1⟩ := ra.lst w
    obtain ⟨z, e, h⟩ := Rs.opt_wp h
    obtain ⟨v', e3, r3⟩ := r1.atI e
    exact .inl ⟨p, vs, i, v', e1, ei, SqL.of e2, e3, Val.of0 h w r3⟩
  case tup xs =>
    obtain ⟨p, vs, e1, e2, r1⟩ := ra.tup w
    obtain ⟨z, e, h⟩ := Rs.opt_wp h
    obtain ⟨v', e3, r3⟩ := r1.atI e
    exact .inr (.inl ⟨p, vs, i, v', e1, ei, e2.sq, e3, Val.of0 h w r3⟩)
  case ro ns =>
    obtain ⟨p, e1, e2⟩ := ra.ro w
    obtain ⟨z, e, h⟩ := Rs.opt_wp h
    obtain ⟨k, e3, e4⟩ := Option.map_eq_some_iff.mp e
    subst e4
    exact .inl ⟨p, _, i, .int k, e1, ei, e2, by rw [atI_map, e3]; rfl, Val.of0 h w rfl⟩
  case str z =>
    by_cases hz : z.length ≤ lim
    · have h : (Rs.opt ((atI z.cps.toList i).map fun c => PV.str ⟨#[c]⟩)).wp (fun _ => False) fun z => Val P 0 F ω H z Q := by
        have h' : (if z.length ≤ lim then Rs.opt ((atI z.cps.toList i).map fun c => PV.str ⟨#[c]⟩) else .stuck).wp (fun _ => False) fun z => Val P 0 F ω H z Q := h
        rw [if_pos hz] at h'; exact h'
      obtain ⟨y, e, h⟩ := Rs.opt_wp h
      obtain ⟨k, e3, e4⟩ := Option.map_eq_some_iff.mp e
      subst e4
      exact .inr (.inr ⟨z, i, k, ra.str, ei, by rw [lim_eq]; exact hz, e3, Val.of0 h w rfl⟩)
    · have h' : (if z.length ≤ lim then Rs.opt ((atI z.cps.toList i).map fun c => PV.str ⟨#[c]⟩) else .stuck).wp (fun _ => False) fun z => Val P 0 F ω H z Q := h
      rw [if_neg hz] at h'; exact h'.elim
theorem qe_ix {fa fb : Env → Rs PV} (ha : QE P ds 3 a fa) (hb : QE P ds 3 b fb) (hs : PlainIx b := by intro _ _; rfl) : QE P ds 0 (.Subscript a b pos) (eOp oIx fa fb) :=
  PE.imp (pe_ix (ix_ok P) ha hb hs) fun σ H Q ⟨F, ω, env, r, h⟩ => bin_to (a := a) (b := b) r h fun F' ω' H' x y v u l w s1 s2 q => ⟨F', ω', x, y, w, s1, s2, Rs.wp_mono (noexc_wp q) (fun _ z => z) fun z hz => hz.mono l⟩

def cut {α : Type} (xs : List α) (lo hi : Option Int) : List α := (xs.drop (HT.sIx xs.length 0 lo)).take (HT.sIx xs.length xs.length hi - HT.sIx xs.length 0 lo)
theorem RepL.cut {K : PySem.W.Frag} {F : Hp} {xs : List PV} {vs : List V} (h : RepL K F xs vs) (lo hi : Option Int) : RepL K F (cut xs lo hi) (cutV vs lo hi) := by
  unfold Pw.cut cutV
  rw [h.length]
  exact (h.drop _).take _
/-- a part of a slice -/
@[simp] def pNone (_ : Env) : Rs (Option Int) := .ok none
@[simp] def pSome (f : Env → Rs PV) (env : Env) : Rs (Option Int) := (f env).bind fun x => match x with
  | .int i => .ok (some i)
  | _ => .stuck
def liftO (P : Px) (ds : List Nat) (f : Env → Rs (Option Int)) : TO := fun σ H Q => ∃ F ω env, Rel P.X.K P.G ds F ω env σ H ∧ (f env).wp (fun c => ExcW P c σ H) fun x => ∀ F' ω' H', Le F ω H F' ω' H' → Wd P.G F' ω' H' → Q x H'
def QO (P : Px) (ds : List Nat) (e : Option Expr) (f : Env → Rs (Option Int)) : Prop := PO P.X e (liftO P ds f)
theorem PO.imp {X : Cx} {e : Option Expr} {t t' : TO} (h : PO X e t) (i : ∀ σ H Q, t' σ H Q → t σ H Q) : PO X e t' := ⟨fun p s σ H Q I q => h.run p s σ H Q I (i _ _ _ q)⟩
theorem qo_none : QO P ds none pNone := PO.imp po_none fun σ H Q ⟨F, ω, env, r, q⟩ => q F ω H (.refl F ω H) r.wd
theorem qo_some {f : Env → Rs PV} (h : QE P ds 0 e f) : QO P ds (some e) (pSome f) := PO.imp (po_some h) fun σ H Q ⟨F, ω, env, r, q⟩ => lift.to r (Rs.wp_bind.mp q) (fun _ z => z) fun x hx F' ω' H' v l w s _ => by
  cases x with
  | int i => exact ⟨i, s, hx F' ω' H' l w⟩
  | _ => exact hx.elim
@[simp] def eSl (f : Env → Rs PV) (lo hi : Env → Rs (Option Int)) (env : Env) : Rs PV := (f env).bind fun x => (lo env).bind fun l => (hi env).bind fun h => match x with
  | .lst xs => .ok (.lst (cut xs l h))
  | _ => .stuck
theorem qe_sl {d : Nat} (hd : d ≤ 1) {lo hi : Option Expr} {p2 : Pos} {f : Env → Rs PV} {fl fh : Env → Rs (Option Int)} (he : QE P ds 3 e f) (hl : QO P ds lo fl) (hh : QO P ds hi fh) : QE P ds d (.Subscript e (.Slice lo hi none p2) pos) (eSl f fl fh) :=
  PE.imp (pe_slice sl_list he hl hh) fun σ H Q ⟨F, ω, env, r, q⟩ => by
    refine lift.to r (Rs.wp_bind.mp q) (fun _ z => z) fun x hx F1 ω1 H1 v l1 w1 s1 _ => ?_
    refine ⟨F1, ω1, env, r.mono l1 w1, Rs.wp_mono (Rs.wp_bind.mp hx) (fun c z => z.mono l1.h) fun lo' hlo F2 ω2 H2 l2 w2 => ?_⟩
    have l3 := l1.trans l2
    refine ⟨F2, ω2, env, r.mono l3 w2, Rs.wp_mono (Rs.wp_bind.mp hlo) (fun c z => z.mono l3.h) fun hi' hhi F4 ω4 H4 l4 w4 => ?_⟩
    have l5 := l3.trans l4
    cases x with
    | lst xs =>
      obtain ⟨p, vs, e1, e2, r1⟩ := (Rv.mono (l2.trans l4).f (l2.trans l4).h (show Rv P.X.K F1 H1 (.lst xs) v from s1)).lst w4
      exact ⟨p, vs, e1, SqL.of e2, Val.newL hd (Val.mono hhi l5) w4 (r1.cut lo' hi')⟩
    | _ => exact hhi.elim
end
end Pw

namespace Pw
open PySem L2
/-! ### calls of built-in functions -/
def intsOf : List PV → Option (List Int)
  | [] => some []
  | .int i :: xs => (intsOf xs).map (i :: ·)
  | _ :: _ => none
def boolsOf : List PV → Option (List Bool)
  | [] => some []
  | .bl i :: xs => (boolsOf xs).map (i :: ·)
  | _ :: _ => none
@[simp] theorem ints_map : ∀ ns : List Int, intsOf (ns.map PV.int) = some ns
  | [] => rfl
  | n :: ns => by rw [List.map_cons, intsOf, ints_map ns]; rfl
@[simp] theorem bools_map : ∀ ns : List Bool, boolsOf (ns.map PV.bl) = some ns
  | [] => rfl
  | n :: ns => by rw [List.map_cons, boolsOf, bools_map ns]; rfl
theorem ints_rep {K : PySem.W.Frag} {F : Hp} : ∀ {xs : List PV} {vs : List V} {ns : List Int}, intsOf xs = some ns → RepL K F xs vs → vs = ns.map V.int
  | [], vs, ns, e, h => by cases e; exact h
  | x :: xs, _, ns, e, ⟨v, r, e2, p, q⟩ => by
    cases x <;> first | cases e | skip
    case int i =>
    obtain ⟨ms, e3, rfl⟩ := Option.map_eq_some_iff.mp (show (intsOf xs).map (i :: ·) = some ns from e)
    subst e2
    rw [show v = V.int i from p, ints_rep e3 q]; rfl
theorem bools_rep {K : PySem.W.Frag} {F : Hp} : ∀ {xs : List PV} {vs : List V} {ns : List Bool}, boolsOf xs = some ns → RepL K F xs vs → vs = ns.map V.bl
  | [], vs, ns, e, h => by cases e; exact h
  | x :: xs, _, ns, e, ⟨v, r, e2, p, q⟩ => by
    cases x <;> first | cases e | skip
    case bl i =>
    obtain ⟨ms, e3, rfl⟩ := Option.map_eq_some_iff.mp (show (boolsOf xs).map (i :: ·) = some ns from e)
    subst e2
    rw [show v = V.bl i from p, bools_rep e3 q]; rfl
def ClR (P : Px) (f : Value) (d : Nat) (o : List PV → Rs PV) : Prop :=
  CallR P.X f fun vs H Q => ∃ F ω xs, Wd P.G F ω H ∧ RvL P.X.K F H xs vs ∧ (o xs).wp (fun _ => False) fun z => Val P d F ω H z Q
@[simp] def eCall (o : List PV → Rs PV) (fa : Env → Rs (List PV)) (env : Env) : Rs PV := (fa env).bind fun xs => (o xs).noexc
section
variable {P : Px} {ds : List Nat} {pos p : Pos} {a b c e : Expr} {es : List Expr} {x : Str} {id T : String} {d : Nat} {o : List PV → Rs PV} {fa : Env → Rs (List PV)}
theorem call_to {σ : St} {H : Hp} {Q : VK} (h : lift P ds d (eCall o fa) σ H Q) : liftB P ds fa σ H fun vs H1 => ∃ F ω xs, Wd P.G F ω H1 ∧ RvL P.X.K F H1 xs vs ∧ (o xs).wp (fun _ => False) fun z => Val P d F ω H1 z Q := by
  obtain ⟨F, ω, env, r, q⟩ := h
  exact liftB.to r (Rs.wp_bind.mp q) (fun _ z => z) fun xs hx F' ω' H' vs l w s => ⟨F', ω', xs, w, s, Rs.wp_mono (noexc_wp hx) (fun _ z => z) fun z hz => hz.mono l⟩
theorem qe_callB (hc : ClR P (.builtin id) d o) (hg : Gl P.X x) (hm : P.X.mg x = none) (hv : bootBuiltins x = some (.builtin id)) (ha : QR P ds (e :: es) fa) (hn : x ≠ "__name__" := by decide) (hdb : (x == ("__debug__" : Str)) = false := by decide)
    (he : starEach (e :: es) P.X.env = (false, eval e P.X.env) :: starEach es P.X.env := by rfl) (hpl : (backTo pos (starEach es P.X.env)).any (·.1) = false := by rfl) : QE P ds d (.Call (.Name x p) (e :: es) [] pos) (eCall o fa) :=
  PE.imp (pe_callB hc hg hm hv ha.1 hn hdb he hpl) fun σ H Q h => call_to h
theorem qe_callT (hc : ClR P (.type T) d o) (hg : Gl P.X x) (hm : P.X.mg x = none) (hv : bootBuiltins x = some (.type T)) (ha : QR P ds (e :: es) fa) (hn : x ≠ "__name__" := by decide) (hdb : (x == ("__debug__" : Str)) = false := by decide)
    (he : starEach (e :: es) P.X.env = (false, eval e P.X.env) :: starEach es P.X.env := by rfl) (hpl : (backTo pos (starEach es P.X.env)).any (·.1) = false := by rfl) : QE P ds d (.Call (.Name x p) (e :: es) [] pos) (eCall o fa) :=
  PE.imp (pe_callTy hc hg hm hv ha.1 hn hdb he hpl) fun σ H Q h => call_to h
/-- a function of a module that was brought in (math.gcd) -/
theorem qe_callF (hc : ClR P (.builtin id) d o) (hg : Gl P.X x) (hm : P.X.mg x = some (.builtin id)) (ha : QR P ds (e :: es) fa) (hdb : (x == ("__debug__" : Str)) = false := by decide)
    (he : starEach (e :: es) P.X.env = (false, eval e P.X.env) :: starEach es P.X.env := by rfl) (hpl : (backTo pos (starEach es P.X.env)).any (·.1) = false := by rfl) : QE P ds d (.Call (.Name x p) (e :: es) [] pos) (eCall o fa) :=
  PE.imp (pe_callBfun hc hg hm ha.1 hdb he hpl) fun σ H Q h => call_to h

def oLen : List PV → Rs PV
  | [.lst xs] => .ok (.int xs.length)
  | [.tup xs] => .ok (.int xs.length)
  | [.ro ns] => .ok (.int ns.length)
  | [.str x] => if x.length ≤ lim then .ok (.int x.length) else .stuck
  | _ => .stuck
@[simp] theorem oLen_r1 (xs : List PV) : oLen [.lst xs] = .ok (.int xs.length) := rfl
@[simp] theorem oLen_r2 (xs : List PV) : oLen [.tup xs] = .ok (.int xs.length) := rfl
@[simp] theorem oLen_r3 (ns : List Int) : oLen [.ro ns] = .ok (.int ns.length) := rfl
@[simp] theorem oLen_r4 (x : Str) : oLen [.str x] = if x.length ≤ lim then .ok (.int x.length) else .stuck := rfl
theorem rv1 {K : PySem.W.Frag} {F H : Hp} {x : PV} {vs : List V} (h : RvL K F H [x] vs) : ∃ v, vs = [v] ∧ Rv K F H x v := by
  obtain ⟨v, r, e, h1, h2⟩ := h
  rw [show r = [] from h2] at e
  exact ⟨v, e, h1⟩
theorem rv2 {K : PySem.W.Frag} {F H : Hp} {x y : PV} {vs : List V} (h : RvL K F H [x, y] vs) : ∃ v u, vs = [v, u] ∧ Rv K F H x v ∧ Rv K F H y u := by
  obtain ⟨v, r, e, h1, h2⟩ := h
  obtain ⟨u, e2, h3⟩ := rv1 h2
  subst e2
  exact ⟨v, u, e, h1, h3⟩
theorem c_len : ClR P (.builtin "len") 0 oLen := by
  intro pins s σ H vs us Q I r ⟨F, ω, xs, w, rv, h⟩
  match xs, rv, h with
  | [.lst xs], rv, h =>
    obtain ⟨v, rfl, q1⟩ := rv1 rv
    obtain ⟨a, vs, rfl, e, rr⟩ := q1.lst w
    exact call_len pins s σ H _ us Q I r ⟨_, vs.length, rfl, .inl ⟨vs, SqL.of e, rfl⟩, by rw [rr.length]; exact Val.of0 h w rfl⟩
  | [.tup xs], rv, h =>
    obtain ⟨v, rfl, q1⟩ := rv1 rv
    obtain ⟨a, vs, rfl, e, rr⟩ := q1.tup w
    exact call_len pins s σ H _ us Q I r ⟨_, vs.length, rfl, .inr ⟨vs, e.sq, rfl⟩, by rw [rr.length]; exact Val.of0 h w rfl⟩
  | [.ro ns], rv, h =>
    obtain ⟨v, rfl, q1⟩ := rv1 rv
    obtain ⟨a, rfl, e⟩ := q1.ro w
    exact call_len pins s σ H _ us Q I r ⟨_, _, rfl, .inl ⟨_, e, rfl⟩, by rw [List.length_map]; exact Val.of0 h w rfl⟩
  | [.str x], rv, h =>
    obtain ⟨hz, h⟩ := ite_ok h
    obtain ⟨v, rfl, q1⟩ := rv1 rv
    exact call_len pins s σ H _ us Q I r ⟨_, x.length, rfl, by rw [q1.str]; exact ⟨by rw [lim_eq]; exact hz, rfl⟩, Val.of0 h w rfl⟩
  | [], _, h => exact False.elim h
  | [.non], _, h => exact False.elim h
  | [.bl _], _, h => exact False.elim h
  | [.int _], _, h => exact False.elim h
  | _ :: _ :: _, _, h => revert h; rename_i x y z _; cases x <;> exact False.elim
def oAbs : List PV → Rs PV
  | [.int i] => .ok (.int (if i < 0 then -i else i))
  | _ => .stuck
@[simp] theorem oAbs_r1 (i : Int) : oAbs [.int i] = .ok (.int (if i < 0 then -i else i)) := rfl
theorem c_abs : ClR P (.builtin "abs") 0 oAbs := by
  intro pins s σ H vs us Q I r ⟨F, ω, xs, w, rv, h⟩
  unfold oAbs at h
  split at h
  · rename_i i
    obtain ⟨v, rfl, q1⟩ := rv1 rv
    exact call_abs pins s σ H _ us Q I r ⟨i, by rw [q1.int], Val.of0 h w rfl⟩
  · exact False.elim h
def oInt : List PV → Rs PV
  | [.int i] => .ok (.int i)
  | [.bl k] => .ok (.int (if k then 1 else 0))
  | _ => .stuck
@[simp] theorem oInt_r1 (i : Int) : oInt [.int i] = .ok (.int i) := rfl
@[simp] theorem oInt_r2 (k : Bool) : oInt [.bl k] = .ok (.int (if k then 1 else 0)) := rfl
theorem c_int : ClR P (.type "int") 0 oInt := by
  intro pins s σ H vs us Q I r ⟨F, ω, xs, w, rv, h⟩
  unfold oInt at h
  split at h
  · rename_i i
    obtain ⟨v, rfl, q1⟩ := rv1 rv
    exact call_int1 pins s σ H _ us Q I r (.inl ⟨i, by rw [q1.int], Val.of0 h w rfl⟩)
  · rename_i i
    obtain ⟨v, rfl, q1⟩ := rv1 rv
    exact call_int1 pins s σ H _ us Q I r (.inr ⟨i, by rw [q1.bl], Val.of0 h w rfl⟩)
  · exact False.elim h
def oMax : List PV → Rs PV
  | [.int i, .int j] => .ok (.int (if i < j then j else i))
  | [.lst xs] => match intsOf xs with
    | some ns => .opt (ns.max?.map PV.int)
    | none => .stuck
  | _ => .stuck
@[simp] theorem oMax_r1 (i : Int) (j : Int) : oMax [.int i, .int j] = .ok (.int (if i < j then j else i)) := rfl
@[simp] theorem oMax_r2 (xs : List PV) : oMax [.lst xs] = match intsOf xs with
    | some ns => .opt (ns.max?.map PV.int)
    | none => .stuck := rfl
def oMin : List PV → Rs PV
  | [.int i, .int j] => .ok (.int (if j < i then j else i))
  | [.lst xs] => match intsOf xs with
    | some ns => .opt (ns.min?.map PV.int)
    | none => .stuck
  | _ => .stuck
@[simp] theorem oMin_r1 (i : Int) (j : Int) : oMin [.int i, .int j] = .ok (.int (if j < i then j else i)) := rfl
@[simp] theorem oMin_r2 (xs : List PV) : oMin [.lst xs] = match intsOf xs with
    | some ns => .opt (ns.min?.map PV.int)
    | none => .stuck := rfl
theorem c_max (hc : P.X.calm = true) : ClR P (.builtin "max") 0 oMax := by
  intro pins s σ H vs us Q I r ⟨F, ω, xs, w, rv, h⟩
  unfold oMax at h
  split at h
  · rename_i i j
    obtain ⟨v, u, rfl, r1, r2⟩ := rv2 rv
    exact call_max2 hc pins s σ H _ us Q I r ⟨i, j, by rw [r1.int, r2.int], Val.of0 h w rfl⟩
  · rename_i xs
    obtain ⟨v, rfl, q1⟩ := rv1 rv
    obtain ⟨a, vs, rfl, e, rr⟩ := q1.lst w
    split at h
    · rename_i ns e2
      obtain ⟨z, e3, h⟩ := Rs.opt_wp h
      obtain ⟨m, e4, e5⟩ := Option.map_eq_some_iff.mp e3
      subst e5
      obtain ⟨m1, m2⟩ := List.max?_eq_some_iff.mp e4
      refine cr_max hc pins s σ H _ us Q I r ⟨a, ns, rfl, by rw [← ints_rep e2 rr]; exact SqL.of e, List.length_pos_of_mem m1, fun m' h1 h2 => ?_⟩
      have : m' = m := Int.le_antisymm (m2 m' h1) (h2 m m1)
      subst this
      exact Val.of0 h w rfl
    · exact False.elim h
  · exact False.elim h
theorem c_min (hc : P.X.calm = true) : ClR P (.builtin "min") 0 oMin := by
  intro pins s σ H vs us Q I r ⟨F, ω, xs, w, rv, h⟩
  unfold oMin at h
  split at h
  · rename_i i j
    obtain ⟨v, u, rfl, r1, r2⟩ := rv2 rv
    exact call_min2 hc pins s σ H _ us Q I r ⟨i, j, by rw [r1.int, r2.int], Val.of0 h w rfl⟩
  · rename_i xs
    obtain ⟨v, rfl, q1⟩ := rv1 rv
    obtain ⟨a, vs, rfl, e, rr⟩ := q1.lst w
    split at h
    · rename_i ns e2
      obtain ⟨z, e3, h⟩ := Rs.opt_wp h
      obtain ⟨m, e4, e5⟩ := Option.map_eq_some_iff.mp e3
      subst e5
      obtain ⟨m1, m2⟩ := List.min?_eq_some_iff.mp e4
      refine cr_min hc pins s σ H _ us Q I r ⟨a, ns, rfl, by rw [← ints_rep e2 rr]; exact SqL.of e, List.length_pos_of_mem m1, fun m' h1 h2 => ?_⟩
      have : m' = m := Int.le_antisymm (h2 m m1) (m2 m' h1)
      subst this
      exact Val.of0 h w rfl
    · exact False.elim h
  · exact False.elim h
def oSum : List PV → Rs PV
  | [.lst xs] => match intsOf xs with
    | some ns => .ok (.int ns.sum)
    | none => .stuck
  | _ => .stuck
@[simp] theorem oSum_r1 (xs : List PV) : oSum [.lst xs] = match intsOf xs with
    | some ns => .ok (.int ns.sum)
    | none => .stuck := rfl
theorem c_sum (hc : P.X.calm = true) : ClR P (.builtin "sum") 0 oSum := by
  intro pins s σ H vs us Q I r ⟨F, ω, xs, w, rv, h⟩
  unfold oSum at h
  split at h
  · rename_i xs
    obtain ⟨v, rfl, q1⟩ := rv1 rv
    obtain ⟨a, vs, rfl, e, rr⟩ := q1.lst w
    split at h
    · rename_i ns e2
      exact cr_sum hc pins s σ H _ us Q I r ⟨a, ns, rfl, by rw [← ints_rep e2 rr]; exact SqL.of e, Val.of0 h w rfl⟩
    · exact False.elim h
  · exact False.elim h
def oAny : List PV → Rs PV
  | [.lst xs] => match boolsOf xs with
    | some ns => .ok (.bl (ns.any fun b => b))
    | none => .stuck
  | _ => .stuck
@[simp] theorem oAny_r1 (xs : List PV) : oAny [.lst xs] = match boolsOf xs with
    | some ns => .ok (.bl (ns.any fun b => b))
    | none => .stuck := rfl
def oAll : List PV → Rs PV
  | [.lst xs] => match boolsOf xs with
    | some ns => .ok (.bl (ns.all fun b => b))
    | none => .stuck
  | _ => .stuck
@[simp] theorem oAll_r1 (xs : List PV) : oAll [.lst xs] = match boolsOf xs with
    | some ns => .ok (.bl (ns.all fun b => b))
    | none => .stuck := rfl
theorem c_any (hc : P.X.calm = true) : ClR P (.builtin "any") 0 oAny := by
  intro pins s σ H vs us Q I r ⟨F, ω, xs, w, rv, h⟩
  unfold oAny at h
  split at h
  · rename_i xs
    obtain ⟨v, rfl, q1⟩ := rv1 rv
    obtain ⟨a, vs, rfl, e, rr⟩ := q1.lst w
    split at h
    · rename_i ns e2
      exact cr_any hc pins s σ H _ us Q I r ⟨a, ns, rfl, by rw [← bools_rep e2 rr]; exact SqL.of e, Val.of0 h w rfl⟩
    · exact False.elim h
  · exact False.elim h
theorem c_all (hc : P.X.calm = true) : ClR P (.builtin "all") 0 oAll := by
  intro pins s σ H vs us Q I r ⟨F, ω, xs, w, rv, h⟩
  unfold oAll at h
  split at h
  · rename_i xs
    obtain ⟨v, rfl, q1⟩ := rv1 rv
    obtain ⟨a, vs, rfl, e, rr⟩ := q1.lst w
    split at h
    · rename_i ns e2
      exact cr_all hc pins s σ H _ us Q I r ⟨a, ns, rfl, by rw [← bools_rep e2 rr]; exact SqL.of e, Val.of0 h w rfl⟩
    · exact False.elim h
  · exact False.elim h
def oList : List PV → Rs PV
  | [.lst xs] => .ok (.lst xs)
  | [.tup xs] => .ok (.lst xs)
  | _ => .stuck
@[simp] theorem oList_r1 (xs : List PV) : oList [.lst xs] = .ok (.lst xs) := rfl
@[simp] theorem oList_r2 (xs : List PV) : oList [.tup xs] = .ok (.lst xs) := rfl
theorem c_list (hd : d ≤ 1) : ClR P (.type "list") d oList := by
  intro pins s σ H vs us Q I r ⟨F, ω, xs, w, rv, h⟩
  unfold oList at h
  split at h
  · rename_i xs
    obtain ⟨v, rfl, q1⟩ := rv1 rv
    obtain ⟨a, vs, rfl, e, rr⟩ := q1.lst w
    exact call_list_of pins s σ H _ us Q I r ⟨a, vs, rfl, .inl (SqL.of e), Val.newL hd h w rr⟩
  · rename_i xs
    obtain ⟨v, rfl, q1⟩ := rv1 rv
    obtain ⟨a, vs, rfl, e, rr⟩ := q1.tup w
    exact call_list_of pins s σ H _ us Q I r ⟨a, vs, rfl, .inr e.sq, Val.newL hd h w rr⟩
  · exact False.elim h
def oTuple : List PV → Rs PV
  | [.lst xs] => .ok (.tup xs)
  | [.tup xs] => .ok (.tup xs)
  | _ => .stuck
@[simp] theorem oTuple_r1 (xs : List PV) : oTuple [.lst xs] = .ok (.tup xs) := rfl
@[simp] theorem oTuple_r2 (xs : List PV) : oTuple [.tup xs] = .ok (.tup xs) := rfl
theorem c_tuple : ClR P (.type "tuple") 0 oTuple := by
  intro pins s σ H vs us Q I r ⟨F, ω, xs, w, rv, h⟩
  unfold oTuple at h
  split at h
  · rename_i xs
    obtain ⟨v, rfl, q1⟩ := rv1 rv
    obtain ⟨a, vs, rfl, e, rr⟩ := q1.lst w
    exact call_tuple_of pins s σ H _ us Q I r ⟨a, vs, rfl, .inl ⟨SqL.of e, Val.newT h w rr⟩⟩
  · rename_i xs
    obtain ⟨v, rfl, q1⟩ := rv1 rv
    obtain ⟨a, vs, rfl, e, rr⟩ := q1.tup w
    refine call_tuple_of pins s σ H _ us Q I r ⟨a, vs, rfl, .inr ⟨e.sq, Val.of0 h w q1.rep⟩⟩
  · exact False.elim h
/-- the sorted list -/
def insI (x : Int) : List Int → List Int
  | [] => [x]
  | y :: ys => if x ≤ y then x :: y :: ys else y :: insI x ys
def sortI : List Int → List Int
  | [] => []
  | x :: xs => insI x (sortI xs)
theorem insI_perm (x : Int) : ∀ ys : List Int, (insI x ys).Perm (x :: ys)
  | [] => List.Perm.refl _
  | y :: ys => by
    unfold insI
    split
    · exact List.Perm.refl _
    · exact ((insI_perm x ys).cons y).trans (List.Perm.swap x y ys)
theorem sortI_perm : ∀ ys : List Int, (sortI ys).Perm ys
  | [] => List.Perm.refl _
  | y :: ys => (insI_perm y (sortI ys)).trans ((sortI_perm ys).cons y)
theorem insI_sorted (x : Int) : ∀ {ys : List Int}, ys.Pairwise (· ≤ ·) → (insI x ys).Pairwise (· ≤ ·)
  | [], _ => by simp [insI]
  | y :: ys, h => by
    unfold insI
    rw [List.pairwise_cons] at h
    split
    · rename_i hx
      rw [List.pairwise_cons]
      refine ⟨fun z hz => ?_, List.pairwise_cons.mpr h⟩
      rcases List.mem_cons.mp hz with rfl | hz
      · exact hx
      · exact Int.le_trans hx (h.1 z hz)
    · rename_i hx
      rw [List.pairwise_cons]
      refine ⟨fun z hz => ?_, insI_sorted x h.2⟩
      rcases List.mem_cons.mp ((insI_perm x ys).mem_iff.mp hz) with rfl | hz
      · omega
      · exact h.1 z hz
theorem sortI_sorted : ∀ ys : List Int, (sortI ys).Pairwise (· ≤ ·)
  | [] => List.Pairwise.nil
  | y :: ys => insI_sorted y (sortI_sorted ys)
theorem sorted_uniq : ∀ {xs ys : List Int}, xs.Perm ys → xs.Pairwise (· ≤ ·) → ys.Pairwise (· ≤ ·) → xs = ys
  | [], ys, h, _, _ => by rw [List.nil_perm.mp h]
  | x :: xs, [], h, _, _ => by have := h.length_eq; simp at this
  | x :: xs, y :: ys, h, h1, h2 => by
    rw [List.pairwise_cons] at h1 h2
    have e : x = y := by
      have a : x ∈ y :: ys := h.mem_iff.mp List.mem_cons_self
      have b : y ∈ x :: xs := h.mem_iff.mpr List.mem_cons_self
      rcases List.mem_cons.mp a with e | a
      · exact e
      · rcases List.mem_cons.mp b with e | b
        · exact e.symm
        · exact Int.le_antisymm (h1.1 y b) (h2.1 x a)
    subst e
    rw [sorted_uniq (List.Perm.cons_inv h) h1.2 h2.2]
def oSorted : List PV → Rs PV
  | [.lst xs] => match intsOf xs with
    | some ns => .ok (.lst ((sortI ns).map PV.int))
    | none => .stuck
  | _ => .stuck
@[simp] theorem oSorted_r1 (xs : List PV) : oSorted [.lst xs] = match intsOf xs with
    | some ns => .ok (.lst ((sortI ns).map PV.int))
    | none => .stuck := rfl
theorem c_sorted (hd : d ≤ 1) : ClR P (.builtin "sorted") d oSorted := by
  intro pins s σ H vs us Q I r ⟨F, ω, xs, w, rv, h⟩
  unfold oSorted at h
  split at h
  · rename_i xs
    obtain ⟨v, rfl, q1⟩ := rv1 rv
    obtain ⟨a, vs, rfl, e, rr⟩ := q1.lst w
    split at h
    · rename_i ns e2
      refine cr_sortedI pins s σ H _ us Q I r ⟨a, ns, rfl, by rw [← ints_rep e2 rr]; exact SqL.of e, fun ns' p h1 h2 hp => ?_⟩
      have e3 := sorted_uniq (h1.trans (sortI_perm ns).symm) h2 (sortI_sorted ns)
      subst e3
      exact Val.newL hd h w (RepL.of_ints F _) p hp
    · exact False.elim h
  · exact False.elim h
def oGcd : List PV → Rs PV
  | [.int i, .int j] => .ok (.int ((Nat.gcd i.natAbs j.natAbs : Nat) : Int))
  | _ => .stuck
@[simp] theorem oGcd_r1 (i : Int) (j : Int) : oGcd [.int i, .int j] = .ok (.int ((Nat.gcd i.natAbs j.natAbs : Nat) : Int)) := rfl
theorem c_gcd : ClR P (.builtin "math.gcd") 0 oGcd := by
  intro pins s σ H vs us Q I r ⟨F, ω, xs, w, rv, h⟩
  unfold oGcd at h
  split at h
  · rename_i i j
    obtain ⟨v, u, rfl, r1, r2⟩ := rv2 rv
    exact cr_gcd pins s σ H _ us Q I r ⟨i, j, by rw [r1.int, r2.int], Val.of0 h w rfl⟩
  · exact False.elim h

/-! ### isinstance with a built-in type, with a tuple of such -/
def tyN : PV → String
  | .non => "NoneType" | .bl _ => "bool" | .int _ => "int" | .str _ => "str" | .lst _ => "list" | .tup _ => "tuple" | .ro _ => "list"
@[simp] theorem tyN_r1 : tyN (.non) = "NoneType" := rfl
@[simp] theorem tyN_r2 (w1 : Bool) : tyN (.bl w1) = "bool" := rfl
@[simp] theorem tyN_r3 (w2 : Int) : tyN (.int w2) = "int" := rfl
@[simp] theorem tyN_r4 (w3 : Str) : tyN (.str w3) = "str" := rfl
@[simp] theorem tyN_r5 (w4 : List PV) : tyN (.lst w4) = "list" := rfl
@[simp] theorem tyN_r6 (w5 : List PV) : tyN (.tup w5) = "tuple" := rfl
@[simp] theorem tyN_r7 (w6 : List Int) : tyN (.ro w6) = "list" := rfl
/-- is it of the type named T -/
@[simp] def isT (T : String) (x : PV) : Bool := tyN x == T || (T == "int" && tyN x == "bool")
def isTs : List String := ["int", "bool", "str", "list", "tuple"]
theorem isT_kit : ∀ t ∈ ["NoneType", "bool", "int", "str", "list", "tuple"], ∀ T ∈ isTs, kitB t T = some (t == T || (T == "int" && t == "bool")) := by decide +kernel
theorem tyN_mem (x : PV) : tyN x ∈ ["NoneType", "bool", "int", "str", "list", "tuple"] := by cases x <;> simp [tyN]
theorem tyX_of {K : PySem.W.Frag} {F : Hp} {ω : Om} {H : Hp} {G : Gh} {x : PV} {v : V} (w : Wd G F ω H) (h : Rv K F H x v) : TyX K H v (.type (tyN x)) := by
  cases x with
  | non => rw [h.non]; exact .base .non
  | bl b => rw [h.bl]; exact .base (.bl b)
  | int b => rw [h.int]; exact .base (.int b)
  | str b => rw [h.str]; exact .base (.str b)
  | lst xs => obtain ⟨a, vs, rfl, e, _⟩ := h.lst w; exact .base (.lst e)
  | tup xs =>
    obtain ⟨a, vs, rfl, e, _⟩ := h.tup w
    rcases e with e | ⟨o, its, n, e, c, _⟩
    · exact .base (.tup e)
    · exact .kTuple e c
  | ro ns =>
    obtain ⟨a, rfl, e⟩ := h.ro w
    rcases e with (e | ⟨o, e⟩) | ⟨o, its, n, e, c, _⟩
    · exact .base (.lst e)
    · exact .base (.frz e)
    · exact .kList e c
@[simp] def eIsi (T : String) (f : Env → Rs PV) (env : Env) : Rs PV := (f env).bind fun x => .ok (.bl (isT T x))
theorem qe_isi {px pc : Pos} {y : Str} (hT : T ∈ isTs) (hg : Gl P.X x) (hm : P.X.mg x = none) (hx : x = "isinstance") (hgy : Gl P.X y) (hmy : P.X.mg y = none) (hby : bootBuiltins y = some (.type T)) {f : Env → Rs PV} (ha : QE P ds 3 e f)
    (hn : x ≠ "__name__" := by decide) (hdb : (x == ("__debug__" : Str)) = false := by decide) (hny : y ≠ "__name__" := by decide) (hdy : (y == ("__debug__" : Str)) = false := by decide)
    (he : starEach [e, .Name y pc] P.X.env = (false, eval e P.X.env) :: starEach [.Name y pc] P.X.env := by rfl) (he2 : starEach [.Name y pc] P.X.env = (false, eval (.Name y pc) P.X.env) :: starEach [] P.X.env := by rfl) (hpl : (backTo pos (starEach [.Name y pc] P.X.env)).any (·.1) = false := by rfl) :
    QE P ds 0 (.Call (.Name x px) [e, .Name y pc] [] pos) (eIsi T f) := by
  subst hx
  refine PE.imp (pe_callB call_isi hg hm PyProof.Rows.boot_isinstance (pa_cons ha (pa_cons (pe_bltn hgy hmy hby (v := .ty T) rfl hny hdy) pa_nil he2) he) hn hdb he hpl) fun σ H Q ⟨F, ω, env, r, q⟩ => ?_
  refine lift.to r (Rs.wp_bind.mp q) (fun _ z => z) fun x hx F' ω' H' v l w s _ => ?_
  exact ⟨v, .ty T, .type (tyN x), .type T, isT T x, rfl, .ty T, tyX_of w s, kit_ty (isT_kit _ (tyN_mem x) _ hT), hx F' ω' H' _ l w rfl (by omega)⟩
@[simp] def eIsi2 (T U : String) (f : Env → Rs PV) (env : Env) : Rs PV := (f env).bind fun x => .ok (.bl (isT T x || isT U x))
theorem qe_isi2 {px pc pd pt : Pos} {y z : Str} {U : String} {k : Nat} (hT : T ∈ isTs) (hU : U ∈ isTs) (hg : Gl P.X x) (hm : P.X.mg x = none) (hx : x = "isinstance") (hgy : Gl P.X y) (hmy : P.X.mg y = none) (hby : bootBuiltins y = some (.type T)) (hgz : Gl P.X z) (hmz : P.X.mg z = none) (hbz : bootBuiltins z = some (.type U)) {f : Env → Rs PV} (ha : QE P ds 3 e f)
    (hn : x ≠ "__name__" := by decide) (hdb : (x == ("__debug__" : Str)) = false := by decide) (hny : y ≠ "__name__" := by decide) (hdy : (y == ("__debug__" : Str)) = false := by decide) (hnz : z ≠ "__name__" := by decide) (hdz : (z == ("__debug__" : Str)) = false := by decide)
    (he : starEach [e, .Tuple [.Name y pc, .Name z pd] k pt] P.X.env = (false, eval e P.X.env) :: starEach [.Tuple [.Name y pc, .Name z pd] k pt] P.X.env := by rfl) (he2 : starEach [.Tuple [.Name y pc, .Name z pd] k pt] P.X.env = (false, eval (.Tuple [.Name y pc, .Name z pd] k pt) P.X.env) :: starEach [] P.X.env := by rfl)
    (he3 : starEach [.Name y pc, .Name z pd] P.X.env = (false, eval (.Name y pc) P.X.env) :: starEach [.Name z pd] P.X.env := by rfl) (he4 : starEach [.Name z pd] P.X.env = (false, eval (.Name z pd) P.X.env) :: starEach [] P.X.env := by rfl)
    (hpl : (backTo pos (starEach [.Tuple [.Name y pc, .Name z pd] k pt] P.X.env)).any (·.1) = false := by rfl) :
    QE P ds 0 (.Call (.Name x px) [e, .Tuple [.Name y pc, .Name z pd] k pt] [] pos) (eIsi2 T U f) := by
  subst hx
  refine PE.imp (pe_callB call_isiT hg hm PyProof.Rows.boot_isinstance (pa_cons ha (pa_cons (pe_tup (pa_cons (pe_bltn hgy hmy hby (v := .ty T) rfl hny hdy) (pa_cons (pe_bltn hgz hmz hbz (v := .ty U) rfl hnz hdz) pa_nil he4) he3)) pa_nil he2) he) hn hdb he hpl) fun σ H Q ⟨F, ω, env, r, q⟩ => ?_
  refine lift.to r (Rs.wp_bind.mp q) (fun _ z => z) fun x hx F' ω' H' v l w s _ => ?_
  refine ⟨by show 2 ≤ sizeLine; rw [sizeLine_eq]; omega, fun p hp => ?_⟩
  obtain ⟨w2, l2⟩ := w.frz (o := .tup [.ty T, .ty U]) hp
  have s2 : Rv P.X.K (upd F' p (.tup [.ty T, .ty U])) (upd H' p (.tup [.ty T, .ty U])) x v := Rv.mono l2.f l2.h s
  refine ⟨v, p, [.ty T, .ty U], .type (tyN x), [.type T, .type U], isT T x || isT U x, rfl, upd_same, .cons (.ty T) (.cons (.ty U) .nil), tyX_of w2 s2, ?_, hx _ _ _ _ (l.trans l2) w2 rfl (by omega)⟩
  have k1 := kit_ty (K := P.X.K) (isT_kit _ (tyN_mem x) _ hT)
  have k2 := kit_ty (K := P.X.K) (isT_kit _ (tyN_mem x) _ hU)
  refine kitAny_cons k1 (fun e1 => kitAny_cons k2 (fun e2 => ?_) fun e2 => ?_) fun e1 => ?_
  · have e1 : isT T x = false := e1
    have e2 : isT U x = false := e2
    rw [e1, e2]; rfl
  · have e2 : isT U x = true := e2
    rw [e2, Bool.or_true]
  · have e1 : isT T x = true := e1
    rw [e1, Bool.true_or]
end
end Pw

namespace Pw
open PySem L2
/-! ### user functions -/
def spD (K : PySem.W.Frag) (mg : Str → Option Value) (n dr : Nat) (d : List PV → Rs PV) : Sp := fun vs H Q E => vs.length = n ∧ ∃ F pvs, Same F H ∧ RepL K F pvs vs ∧
  (d pvs).wp (fun c => ∀ C H', mg c = some (.ref C) → Same H H' → E (.ref C) none H') fun x => ∀ F' ω' H' v, Wd ⟨H, F⟩ F' ω' H' → Sl K F' ω' H' dr x v → (dr = 1 ∨ dr = 2 → ∀ p, v = .ref p → H p = none) → Q v H'
/-! has it no list within -/
mutual
@[simp] def noL : PV → Bool
  | .lst _ => false
  | .ro _ => false
  | .tup xs => noLs xs
  | _ => true
@[simp] def noLs : List PV → Bool
  | [] => true
  | x :: xs => noL x && noLs xs
end
/-- what a function that was handed an owned list may hand back -/
@[simp] def noA (dr : Nat) (x : PV) : Bool := match dr, x with
  | 0, x => noL x
  | 1, .lst xs => noLs xs
  | _, _ => false
@[simp] def eFun (d : List PV → Rs PV) (fa : Env → Rs (List PV)) (env : Env) : Rs PV := (fa env).bind d
@[simp] def eFunB (dr : Nat) (d : List PV → Rs PV) (fa : Env → Rs (List PV)) (env : Env) : Rs PV := (fa env).bind fun xs => (d xs).bind fun x => if noA dr x = true then .ok x else .stuck
def mrg (ω ω' : Om) : Om := fun p => match ω p with
  | some l => some l
  | none => ω' p
section
variable {K : PySem.W.Frag} {G : Gh} {F F' : Hp} {ω ω' : Om} {H H' : Hp}
theorem Wd.call (w : Wd G F ω H) (c : Wd ⟨H, F⟩ F' ω' H') : Wd G F' (mrg ω ω') H' ∧ Le F ω H F' (mrg ω ω') H' ∧ Le F' ω' H' F' (mrg ω ω') H' := by
  refine ⟨⟨w.h0.trans c.h0, w.f0.trans c.f0, c.f, fun a xs o' e e' => ?_, fun p l e => ?_⟩, ⟨c.f0, fun p l e => ?_, c.h0⟩, ⟨.refl _, fun p l e => ?_, .refl _⟩⟩
  · obtain ⟨o, h1⟩ := c.nw a xs o' e (w.h0 a o' e')
    have h1 : F a = some o := h1
    have h2 := (c.f0 a o h1)
    rw [e] at h2
    cases h2
    exact w.nw a xs o' h1 e'
  · unfold mrg at e
    split at e
    · rename_i l' h
      obtain ⟨h1, h2, vs, h3⟩ := w.om p _ h
      refine ⟨?_, h2, vs, c.h0 _ _ h3⟩
      cases q : F' p with
      | none => rfl
      | some u =>
        have h4 := c.h0 _ _ h3
        have h5 := c.f _ _ q
        rw [h4] at h5
        cases h5
        obtain ⟨o, h6⟩ := c.nw p vs _ q h3
        have h6 : F p = some o := h6
        rw [h1] at h6; cases h6
    · obtain ⟨h1, h2, vs, h3⟩ := c.om p _ e
      exact ⟨h1, w.h0.free h2, vs, h3⟩
  · unfold mrg; rw [e]
  · unfold mrg
    cases q : ω p with
    | none => exact e
    | some l' =>
      obtain ⟨_, h2, _⟩ := c.om p _ e
      obtain ⟨_, _, vs, h3⟩ := w.om p _ q
      have h2 : H p = none := h2
      rw [h2] at h3; cases h3
theorem RvL.length : ∀ {xs : List PV} {vs : List V}, RvL K F H xs vs → vs.length = xs.length
  | [], vs, h => by rw [show vs = [] from h]; rfl
  | x :: xs, _, ⟨v, r, e, _, q⟩ => by rw [e, List.length_cons, List.length_cons, RvL.length q]
theorem RvL.all (f : Same F H) : ∀ {xs : List PV} {vs : List V}, RvL K F H xs vs → RepL K H xs vs
  | [], vs, h => h
  | x :: xs, _, ⟨v, r, e, p, q⟩ => by
    refine ⟨v, r, e, ?_, RvL.all f q⟩
    rcases p with p | ⟨a, vs, ys, e1, e2, e3, p⟩
    · exact p.mono f
    · subst e1 e2; exact ⟨a, vs, rfl, e3, p.mono f⟩
/-- the frozen part behind a call that was handed owned lists: what is new, the tuples, what was frozen -/
def thin (F H F' : Hp) : Hp := fun a => match H a with
  | none => F' a
  | some (.tup vs) => some (.tup vs)
  | some _ => F a
theorem thin_tup (h : Same H F') {a : Addr} {vs : List V} (e : F' a = some (.tup vs)) : thin F H F' a = some (.tup vs) := by
  unfold thin
  split
  · exact e
  · rename_i us q
    rw [h _ _ q] at e; exact e
  · rename_i o n q
    rw [h _ _ q] at e
    cases e
    exact absurd rfl (n vs)
mutual
theorem Rep.thin (h : Same H F') : ∀ {x : PV} {v : V}, noL x = true → Rep K F' x v → Rep K (thin F H F') x v
  | .non, _, _, q => q
  | .bl _, _, _, q => q
  | .int _, _, _, q => q
  | .str _, _, _, q => q
  | .tup xs, _, n, ⟨a, vs, e, .inl f, r⟩ => ⟨a, vs, e, .inl (thin_tup h f), RepL.thin h n r⟩
  | .tup xs, _, n, ⟨a, vs, e, .inr f, r⟩ => ⟨a, vs, e, .inr f, RepL.thin h n r⟩
  | .lst xs, _, n, _ => by cases n
  | .ro xs, _, n, _ => by cases n
theorem RepL.thin (h : Same H F') : ∀ {xs : List PV} {vs : List V}, noLs xs = true → RepL K F' xs vs → RepL K (thin F H F') xs vs
  | [], _, _, q => q
  | x :: xs, _, n, ⟨v, r, e, p, q⟩ => by
    have n : (noL x && noLs xs) = true := n
    rw [Bool.and_eq_true] at n
    exact ⟨v, r, e, Rep.thin h n.1 p, RepL.thin h n.2 q⟩
end
theorem Wd.thin (w : Wd G F ω H) (c : Wd ⟨H, H⟩ F' ω' H') : Wd G (thin F H F') (mrg ω ω') H' ∧ Le F ω H (Pw.thin F H F') (mrg ω ω') H' ∧ ∀ p l, ω' p = some l → mrg ω ω' p = some l := by
  have sH : Same H F' := c.f0
  have om' : ∀ p l, ω' p = some l → ω p = none := fun p l e => by
    cases q : ω p with
    | none => rfl
    | some l' =>
      obtain ⟨_, h2, _⟩ := c.om p _ e
      obtain ⟨_, _, vs, h3⟩ := w.om p _ q
      have h2 : H p = none := h2
      rw [h2] at h3; cases h3
  have sF : Same F (Pw.thin F H F') := fun a o e => by
    have e2 := w.f _ _ e
    unfold Pw.thin
    rw [e2]
    cases o <;> first | exact e | rfl
  refine ⟨⟨w.h0.trans c.h0, w.f0.trans sF, fun a o e => ?_, fun a xs o' e e' => ?_, fun p l e => ?_⟩, ⟨sF, fun p l e => ?_, c.h0⟩, fun p l e => ?_⟩
  · unfold Pw.thin at e
    split at e
    · exact c.f _ _ e
    · rename_i us q
      rw [← e]; exact c.h0 _ _ q
    · exact c.h0 _ _ (w.f _ _ e)
  · have e2 := w.h0 _ _ e'
    unfold Pw.thin at e
    rw [e2] at e
    split at e
    · rename_i q; cases q
    · cases e
    · exact w.nw a xs o' e e'
  · unfold mrg at e
    split at e
    · rename_i l' h
      obtain ⟨h1, h2, vs, h3⟩ := w.om p _ h
      refine ⟨?_, h2, vs, c.h0 _ _ h3⟩
      unfold Pw.thin; rw [h3]; exact h1
    · obtain ⟨h1, h2, vs, h3⟩ := c.om p _ e
      have h2 : H p = none := h2
      refine ⟨?_, w.h0.free h2, vs, h3⟩
      unfold Pw.thin; rw [h2]; exact h1
  · unfold mrg; rw [e]
  · unfold mrg; rw [om' p l e]; exact e
end
section
variable {P : Px} {ds : List Nat} {pos p : Pos} {a b c e : Expr} {es : List Expr} {x : Str} {k n dr : Nat} {f : Addr} {fd : FuncData} {ps : List Str} {d : List PV → Rs PV} {fa : Env → Rs (List PV)}
/-- a def of the program as the rules use it -/
structure Fn (P : Program) (w : World) (K : PySem.W.Frag) (mg : Str → Option Value) (base : Heap) (x : Str) (k : Nat) (ps : List Str) (dr : Nat) (d : List PV → Rs PV) : Prop where
  ex : ∃ f fd, FnOk P w K mg base (L2.CX P w) k f fd ps (spD K mg ps.length dr d) ∧ mg x = some (.ref f) ∧ PySem.W.keepIn K (.ref f) = true ∧ Binds K fd ps []
theorem Fn.mono {P : Program} {w : World} {K : PySem.W.Frag} {mg : Str → Option Value} {base : Heap} {j : Nat} (F : Fn P w K mg base x j ps dr d) (h : j ≤ k) : Fn P w K mg base x k ps dr d :=
  let ⟨f, fd, F1, F2, F3, F4⟩ := F.ex
  ⟨f, fd, F1.mono h, F2, F3, F4⟩
theorem qe_fun (F : Fn P.X.prog P.X.w P.X.K P.X.mg P.X.base x k ps dr d) (hr : Room k P.X.A) (tk : Takes P.X P.W) (hg : Gl P.X x) (ha : QA P ds (e :: es) fa) (hn : (e :: es).length = ps.length := by rfl)
    (hdb : (x == ("__debug__" : Str)) = false := by decide) (he : starEach (e :: es) P.X.env = (false, eval e P.X.env) :: starEach es P.X.env := by rfl) (hpl : (backTo pos (starEach es P.X.env)).any (·.1) = false := by rfl) :
    QE P ds dr (.Call (.Name x p) (e :: es) [] pos) (eFun d fa) := by
  obtain ⟨f, fd, F1, F2, F3, F4⟩ := F.ex
  refine PE.imp (pe_callS F1 hr hg F2 F3 F4 (fun σ => passAt tk σ) ha.1 hdb he hpl) fun σ H Q ⟨F, ω, env, r, q⟩ => ?_
  cases hfa : fa env with
  | stuck => unfold eFun at q; rw [hfa] at q; exact q.elim
  | exc c => unfold eFun at q; rw [hfa] at q; exact ⟨F, ω, env, r, by rw [hfa]; exact q⟩
  | ok xs =>
    unfold eFun at q; rw [hfa] at q
    refine ⟨F, ω, env, r, ?_⟩
    rw [hfa]
    intro F1 ω1 H1 vs l1 w1 s1
    refine ⟨by rw [s1.length, ha.2 env xs hfa, hn], F1, xs, w1.f, s1, Rs.wp_mono (show (d xs).wp _ _ from q) (fun c z C H' m s => z C H' m (l1.h.trans s)) fun x hx F' ω' H' v c s fr => ?_⟩
    obtain ⟨w2, l2, l3⟩ := w1.call c
    exact hx F' _ H' v (l1.trans l2) w2 (s.mono l3) fun n p e => l1.h.free (fr n p e)
theorem qe_funB (F : Fn P.X.prog P.X.w P.X.K P.X.mg P.X.base x k ps dr d) (hr : Room k P.X.A) (tk : Takes P.X P.W) (hg : Gl P.X x) (ha : QR P ds (e :: es) fa) (hn : (e :: es).length = ps.length := by rfl)
    (hdb : (x == ("__debug__" : Str)) = false := by decide) (he : starEach (e :: es) P.X.env = (false, eval e P.X.env) :: starEach es P.X.env := by rfl) (hpl : (backTo pos (starEach es P.X.env)).any (·.1) = false := by rfl) :
    QE P ds dr (.Call (.Name x p) (e :: es) [] pos) (eFunB dr d fa) := by
  obtain ⟨f, fd, F1, F2, F3, F4⟩ := F.ex
  refine PE.imp (pe_callS F1 hr hg F2 F3 F4 (fun σ => passAt tk σ) ha.1 hdb he hpl) fun σ H Q ⟨F, ω, env, r, q⟩ => ?_
  cases hfa : fa env with
  | stuck => unfold eFunB at q; rw [hfa] at q; exact q.elim
  | exc c => unfold eFunB at q; rw [hfa] at q; exact ⟨F, ω, env, r, by rw [hfa]; exact q⟩
  | ok xs =>
    unfold eFunB at q; rw [hfa] at q
    refine ⟨F, ω, env, r, ?_⟩
    rw [hfa]
    intro F1 ω1 H1 vs l1 w1 s1
    refine ⟨by rw [s1.length, ha.2 env xs hfa, hn], H1, xs, .refl _, s1.all w1.f, Rs.wp_mono (Rs.wp_bind.mp (show ((d xs).bind _).wp _ _ from q)) (fun c z C H' m s => z C H' m (l1.h.trans s)) fun x hx F' ω' H' v c s fr => ?_⟩
    obtain ⟨hn, hx⟩ := ite_ok hx
    obtain ⟨w2, l2, l3⟩ := w1.thin c
    refine hx _ _ H' v (l1.trans l2) w2 ?_ fun n p e => l1.h.free (fr n p e)
    match dr, x, hn, s with
    | 0, x, hn, s => exact Rep.thin c.f0 hn s
    | 1, .lst xs, hn, ⟨p, vs, ys, e1, e2, e3, e4, e5⟩ =>
      cases e1
      exact ⟨p, vs, _, rfl, e2, e3, l3 _ _ e4, RepL.thin c.f0 hn e5⟩

theorem qe_glob {v : V} {u : Value} {y : PV} (hg : Gl P.X x) (hm : P.X.mg x = some u) (r : RelV v u) (hy : ∀ F, Rep P.X.K F y v) (hdb : (x == ("__debug__" : Str)) = false := by decide) : QE P ds 0 (.Name x pos) (eC y) :=
  PE.imp (pe_glob hg hm r hdb) fun σ H Q ⟨F, ω, env, r, q⟩ => Val.of0 q r.wd (hy F)

/-! ### targets -/
inductive Tg where
  | n (i : Nat) | t (ts : List Tg)
mutual
def tgS : Tg → PV → Env → Rs Env
  | .n i, x, env => .ok (env.set i (some x))
  | .t ts, .tup xs, env => tgSs ts xs env
  | .t _, _, _ => .stuck
def tgSs : List Tg → List PV → Env → Rs Env
  | [], [], env => .ok env
  | t :: ts, x :: xs, env => (tgS t x env).bind fun e => tgSs ts xs e
  | _, _, _ => .stuck
end
@[simp] theorem tgS_n (i : Nat) (x : PV) (env : Env) : tgS (.n i) x env = .ok (env.set i (some x)) := by unfold tgS; rfl
@[simp] theorem tgS_t (ts : List Tg) (xs : List PV) (env : Env) : tgS (.t ts) (.tup xs) env = tgSs ts xs env := by rw [tgS]
@[simp] theorem tgSs_nil (env : Env) : tgSs [] [] env = .ok env := by rw [tgSs]
@[simp] theorem tgSs_cons (t : Tg) (ts : List Tg) (x : PV) (xs : List PV) (env : Env) : tgSs (t :: ts) (x :: xs) env = (tgS t x env).bind fun e => tgSs ts xs e := by rw [tgSs]
mutual
def tgI : Tg → List Nat
  | .n i => [i]
  | .t ts => tgIs ts
def tgIs : List Tg → List Nat
  | [] => []
  | t :: ts => tgI t ++ tgIs ts
end
/-- what a target does: slots of is alone change -/
def liftG (P : Px) (ds : List Nat) (g : PV → Env → Rs Env) (is : List Nat) : TG := fun v σ H Q => ∃ F ω env x, Rel P.X.K P.G ds F ω env σ H ∧ Rep P.X.K F x v ∧ (g x env).wp (fun _ => False) fun env' => ∀ σ', Rel P.X.K P.G ds F ω env' σ' H → (∀ j, j ∉ is → σ'[j]? = σ[j]?) → σ'.length = σ.length → Q σ' H
def liftGs (P : Px) (ds : List Nat) (g : List PV → Env → Rs Env) (is : List Nat) : TGs := fun vs σ H Q => ∃ F ω env xs, Rel P.X.K P.G ds F ω env σ H ∧ RepL P.X.K F xs vs ∧ (g xs env).wp (fun _ => False) fun env' => ∀ σ', Rel P.X.K P.G ds F ω env' σ' H → (∀ j, j ∉ is → σ'[j]? = σ[j]?) → σ'.length = σ.length → Q σ' H
def QG (P : Px) (ds : List Nat) (tg : Expr) (t : Tg) : Prop := PG P.X tg (liftG P ds (tgS t) (tgI t))
def QGs (P : Px) (ds : List Nat) (tgs : List Expr) (ts : List Tg) : Prop := PGs P.X tgs (liftGs P ds (tgSs ts) (tgIs ts))
theorem PG.imp {X : Cx} {tg : Expr} {t t' : TG} (h : PG X tg t) (i : ∀ v σ H Q, t' v σ H Q → t v σ H Q) : PG X tg t' := ⟨fun p s σ H v u Q I r q => h.run p s σ H v u Q I r (i _ _ _ _ q)⟩
theorem PGs.imp {X : Cx} {tgs : List Expr} {t t' : TGs} (h : PGs X tgs t) (i : ∀ v σ H Q, t' v σ H Q → t v σ H Q) : PGs X tgs t' := ⟨fun p s σ H v u Q I r q => h.run p s σ H v u Q I r (i _ _ _ _ q)⟩
/-- a slot is stored -/
theorem Rel.set {K : PySem.W.Frag} {G : Gh} {F F' : Hp} {ω ω' : Om} {env : Env} {σ : St} {H H' : Hp} {i d : Nat} {x : PV} {v : V} (r : Rel K G ds F ω env σ H) (l : Le F ω H F' ω' H') (w : Wd G F' ω' H') (s : Sl K F' ω' H' d x v)
    (fr : d = 1 ∨ d = 2 → ∀ p, v = .ref p → H p = none) : Rel K G (ds.set i d) F' ω' (env.set i (some x)) (σ.set i (some v)) H' ∨ ¬ i < ds.length := by
  by_cases hid : i < ds.length
  · left
    have hds : ∀ j, (ds.set i d).getD j 0 = if j = i then d else ds.getD j 0 := fun j => by
      rw [List.getD_eq_getElem?_getD, List.getD_eq_getElem?_getD]
      by_cases hj : j = i
      · subst hj; rw [if_pos rfl, List.getElem?_set_self hid]; rfl
      · rw [if_neg hj, List.getElem?_set_ne (Ne.symm hj)]
    have inv : ∀ {j : Nat} {y : PV}, (env.set i (some x))[j]? = some (some y) → (j = i ∧ y = x ∧ i < env.length) ∨ (j ≠ i ∧ env[j]? = some (some y)) := fun {j y} e => by
      by_cases hj : j = i
      · subst hj
        by_cases hl : j < env.length
        · rw [List.getElem?_set_self hl] at e; cases e; exact .inl ⟨rfl, rfl, hl⟩
        · rw [List.getElem?_eq_none (by simpa using hl)] at e; cases e
      · rw [List.getElem?_set_ne (Ne.symm hj)] at e; exact .inr ⟨hj, e⟩
    have owned : ∀ {j : Nat} {y : PV} {u : V}, (ds.getD j 0 = 1 ∨ ds.getD j 0 = 2) → env[j]? = some (some y) → σ[j]? = some (some u) → ∃ p vs, u = .ref p ∧ H p = some (.lst vs) := fun {j y u} hd e e2 => by
      obtain ⟨v', h1, h2⟩ := r.sl j y e
      rw [e2] at h1; cases h1
      obtain ⟨p, vs, h3, _, h4⟩ := Sl.top hd h2
      exact ⟨p, vs, h3, h4⟩
    refine ⟨w, fun j y e => ?_, fun j m y z u hjm hd1 hd2 e1 e2 e3 e4 => ?_, by rw [List.length_set, List.length_set]; exact r.ln⟩
    · rcases inv e with ⟨rfl, rfl, hl⟩ | ⟨hj, e⟩
      · exact ⟨v, by rw [List.getElem?_set_self (by rw [← r.ln]; exact hl)], by rw [hds, if_pos rfl]; exact s⟩
      · obtain ⟨u, h1, h2⟩ := r.sl j y e
        exact ⟨u, by rw [List.getElem?_set_ne (Ne.symm hj)]; exact h1, by rw [hds, if_neg hj]; exact h2.mono l⟩
    · rw [hds] at hd1 hd2
      rcases inv e1 with ⟨hj, hy, hl⟩ | ⟨hj, e1'⟩
      · rw [if_pos hj] at hd1
        rw [hj, List.getElem?_set_self (by rw [← r.ln]; exact hl)] at e3
        cases e3
        rcases inv e2 with ⟨hm, _⟩ | ⟨hm, e2'⟩
        · exact absurd (hj.trans hm.symm) hjm
        · rw [if_neg hm] at hd2
          rw [List.getElem?_set_ne (Ne.symm hm)] at e4
          obtain ⟨p, vs, h3, h4⟩ := owned hd2 e2' e4
          rw [fr hd1 p h3] at h4; cases h4
      · rw [if_neg hj] at hd1
        rw [List.getElem?_set_ne (Ne.symm hj)] at e3
        rcases inv e2 with ⟨hm, hy, hl⟩ | ⟨hm, e2'⟩
        · rw [if_pos hm] at hd2
          rw [hm, List.getElem?_set_self (by rw [← r.ln]; exact hl)] at e4
          cases e4
          obtain ⟨p, vs, h3, h4⟩ := owned hd1 e1' e3
          rw [fr hd2 p h3] at h4; cases h4
        · rw [if_neg hm] at hd2
          rw [List.getElem?_set_ne (Ne.symm hm)] at e4
          exact r.ap j m y z u hjm hd1 hd2 e1' e2' e3 e4
  · exact .inr hid
theorem Rel.set0 {K : PySem.W.Frag} {G : Gh} {F : Hp} {ω : Om} {env : Env} {σ : St} {H : Hp} {i : Nat} {x : PV} {v : V} (r : Rel K G ds F ω env σ H) (hd : ds.getD i 0 = 0) (s : Rep K F x v) : Rel K G ds F ω (env.set i (some x)) (σ.set i (some v)) H := by
  refine ⟨r.wd, fun j y e => ?_, fun j m y z u hjm hd1 hd2 e1 e2 e3 e4 => ?_, by rw [List.length_set, List.length_set]; exact r.ln⟩
  · by_cases hj : j = i
    · subst hj
      by_cases hl : j < env.length
      · rw [List.getElem?_set_self hl] at e; cases e
        exact ⟨v, by rw [List.getElem?_set_self (by rw [← r.ln]; exact hl)], by rw [hd]; exact s⟩
      · rw [List.getElem?_eq_none (by simpa using hl)] at e; cases e
    · rw [List.getElem?_set_ne (Ne.symm hj)] at e ⊢; exact r.sl j y e
  · have hj : j ≠ i := fun q => by subst q; omega
    have hm : m ≠ i := fun q => by subst q; omega
    rw [List.getElem?_set_ne (Ne.symm hj)] at e1 e3
    rw [List.getElem?_set_ne (Ne.symm hm)] at e2 e4
    exact r.ap j m y z u hjm hd1 hd2 e1 e2 e3 e4
theorem qg_n (i : Nat) {x : Str} (hd : ds.getD i 0 = 0 := by rfl) (hN : P.X.N.Nodup) (hi : P.X.N[i]? = some x := by rfl) (hx : Loc P.X.env.scope x := by first | exact Or.inl rfl | exact Or.inr rfl) (hf : P.X.fn x = true ∨ P.X.env.scope.names.lookup x = some .local := by first | exact .inl rfl | exact .inr rfl) : QG P ds (.Name x pos) (.n i) :=
  PG.imp (pg_name hN hi hx hf) fun v σ H Q ⟨F, ω, env, y, r, s, q⟩ => q _ (r.set0 hd s) (fun j hj => by rw [List.getElem?_set_ne (fun e => hj (by simp [tgI, e]))]) (by rw [List.length_set])
theorem qgs_nil : QGs P ds [] [] := PGs.imp pgs_nil fun vs σ H Q ⟨F, ω, env, xs, r, s, q⟩ => by
  cases xs with
  | nil => exact ⟨s, q σ r (fun _ _ => rfl) rfl⟩
  | cons _ _ => exact q.elim
theorem qgs_cons {tg : Expr} {tgs : List Expr} {t : Tg} {ts : List Tg} (h : QG P ds tg t) (k : QGs P ds tgs ts) (hs : (assignEach (tg :: tgs) P.X.env).map (·.2) = assign tg P.X.env :: (assignEach tgs P.X.env).map (·.2) := by rfl) : QGs P ds (tg :: tgs) (t :: ts) :=
  PGs.imp (pgs_cons h k hs) fun vs σ H Q ⟨F, ω, env, xs, r, s, q⟩ => by
    cases xs with
    | nil => exact q.elim
    | cons x xs =>
      obtain ⟨v, us, e, s1, s2⟩ := s
      refine ⟨v, us, e, F, ω, env, x, r, s1, ?_⟩
      have q : ((tgS t x env).bind fun e => tgSs ts xs e).wp _ _ := q
      refine Rs.wp_mono (Rs.wp_bind.mp q) (fun _ z => z) fun env1 h1 σ1 r1 n1 l1 => ⟨F, ω, env1, xs, r1, s2, Rs.wp_mono h1 (fun _ z => z) fun env2 h2 σ2 r2 n2 l2 => ?_⟩
      refine h2 σ2 r2 (fun j hj => ?_) (l2.trans l1)
      have hj : j ∉ tgI t ++ tgIs ts := hj
      rw [List.mem_append] at hj
      exact (n2 j fun z => hj (.inr z)).trans (n1 j fun z => hj (.inl z))
theorem qg_t {tgs : List Expr} {ts : List Tg} {k : Nat} (hc : P.X.calm = true) (h : QGs P ds tgs ts) (hn : (assignEach tgs P.X.env).length = ts.length := by rfl) (hst : (assignEach tgs P.X.env).findIdx? (·.1) = none := by rfl) : QG P ds (.Tuple tgs k pos) (.t ts) :=
  PG.imp (pg_tup hc h hn hst) fun v σ H Q ⟨F, ω, env, x, r, s, q⟩ => by
    cases x with
    | tup xs =>
      obtain ⟨a, vs, e1, e2, e3⟩ := s
      have q : (tgSs ts xs env).wp _ _ := q
      refine ⟨a, vs, e1, (e2.mono r.wd.f).sq, ?_, F, ω, env, xs, r, e3, q⟩
      rw [e3.length]
      have len : ∀ (ts : List Tg) (xs : List PV) (env : Env) {E : Str → Prop} {R : Env → Prop}, (tgSs ts xs env).wp E R → (∀ c, ¬ E c) → xs.length = ts.length := by
        intro ts
        induction ts with
        | nil => intro xs env E R h n; cases xs with
          | nil => rfl
          | cons _ _ => exact h.elim
        | cons t ts ih => intro xs env E R h n; cases xs with
          | nil => exact h.elim
          | cons x xs =>
            have h : ((tgS t x env).bind fun e => tgSs ts xs e).wp E R := h
            have h := Rs.wp_bind.mp h
            cases q : tgS t x env with
            | stuck => rw [q] at h; exact h.elim
            | exc c => rw [q] at h; exact (n c h).elim
            | ok e =>
              rw [q] at h
              rw [List.length_cons, List.length_cons, ih xs e h n]
      exact len ts xs env q fun _ z => z
    | _ => exact q.elim
end
end Pw

namespace Pw
open PySem L2
/-! ### what is walked -/
/-- J yields xs, while B stands -/
def ItOk (K : PySem.W.Frag) (F B : Hp) (J : It) (xs : List PV) : Prop := ∃ Gd Y, Walk J xs.length Gd Y ∧ (∀ H', Same B H' → Gd H') ∧
  ∀ i Hh v H' x, xs[i]? = some x → Same B Hh → Same F Hh → Y i Hh v H' → (H' = Hh ∧ Rep K F x v) ∨ ∃ T vs ys, v = .ref T ∧ Hh T = none ∧ H' = upd Hh T (.tup vs) ∧ x = .tup ys ∧ RepL K F ys vs
/-- bb: true where the walked list is frozen (a loop may change others), false where nothing may change -/
def liftI (P : Px) (ds : List Nat) (bb : Bool) (f : Env → Rs (List PV)) : TI := fun σ H R => ∃ F ω env, Rel P.X.K P.G ds F ω env σ H ∧ (f env).wp (fun c => ExcW P c σ H) fun xs => ∀ F' ω' H' J, Le F ω H F' ω' H' → Wd P.G F' ω' H' → ItOk P.X.K F' (if bb = true then F' else H') J xs → R J H'
def QI (P : Px) (ds : List Nat) (bb : Bool) (tg iter : Expr) (f : Env → Rs (List PV)) : Prop := PI P.X tg iter (liftI P ds bb f)
theorem PI.imp {X : Cx} {tg e : Expr} {t t' : TI} (h : PI X tg e t) (i : ∀ σ H Q, t' σ H Q → t σ H Q) : PI X tg e t' := ⟨fun p s σ H R I q => h.run p s σ H R I (i _ _ _ q)⟩
theorem PI.or {X : Cx} {tg e : Expr} {t t' : TI} (h : PI X tg e t) (k : PI X tg e t') : PI X tg e fun σ H R => t σ H R ∨ t' σ H R := ⟨fun p s σ H R I q => q.elim (h.run p s σ H R I) (k.run p s σ H R I)⟩
/-- the items of a list, a tuple -/
def oIter : PV → Rs (List PV)
  | .lst xs => .ok xs
  | .tup xs => .ok xs
  | .ro ns => .ok (ns.map PV.int)
  | _ => .stuck
@[simp] theorem oIter_r1 (xs : List PV) : oIter (.lst xs) = .ok xs := rfl
@[simp] theorem oIter_r2 (xs : List PV) : oIter (.tup xs) = .ok xs := rfl
@[simp] theorem oIter_r3 (ns : List Int) : oIter (.ro ns) = .ok (ns.map PV.int) := rfl
@[simp] def iE (f : Env → Rs PV) (env : Env) : Rs (List PV) := (f env).bind oIter
section
variable {P : Px} {ds : List Nat} {pos p : Pos} {tg a b c e : Expr} {es : List Expr} {x : Str}
theorem itl_ok {K : PySem.W.Frag} {F B : Hp} {a : Addr} {vs : List V} {xs : List PV} (hB : ∀ H', Same B H' → SqL K H' a vs) (r : RepL K F xs vs) : ItOk K F B (Itl K a) xs :=
  ⟨_, _, by rw [← r.length]; exact walk_list, hB, fun i Hh v H' x e _ _ y => .inl (by
    obtain ⟨u, h1, h2⟩ := r.get e
    obtain ⟨y1, y2⟩ := y
    have y2 : vs[i]? = some v := y2
    rw [h1] at y2; cases y2; exact ⟨y1, h2⟩)⟩
theorem itt_ok {K : PySem.W.Frag} {F B : Hp} {a : Addr} {vs : List V} {xs : List PV} (hB : ∀ H', Same B H' → SqT K H' a vs) (r : RepL K F xs vs) : ItOk K F B (Itt K a) xs :=
  ⟨_, _, by rw [← r.length]; exact walk_tup, hB, fun i Hh v H' x e _ _ y => .inl (by
    obtain ⟨u, h1, h2⟩ := r.get e
    obtain ⟨y1, y2⟩ := y
    have y2 : vs[i]? = some v := y2
    rw [h1] at y2; cases y2; exact ⟨y1, h2⟩)⟩
theorem Same.sqT {K : PySem.W.Frag} {H H' : Hp} {a : Addr} {xs : List V} (e : Same H H') (h : SqT K H a xs) : SqT K H' a xs := by
  rcases h with (h | ⟨o, h⟩) | h
  · exact .inl (.inl (e _ _ h))
  · exact .inl (.inr ⟨o, e _ _ h⟩)
  · exact .inr h
/-- over a frozen list or tuple -/
theorem qi_e {f : Env → Rs PV} (h : QE P ds 0 e f) : QI P ds true tg e (iE f) :=
  PI.imp (PI.or (pi_list h) (pi_tup h)) fun σ H R ⟨F, ω, env, r, q⟩ => by
    have q := Rs.wp_bind.mp q
    cases hf : f env with
    | stuck => rw [hf] at q; exact q.elim
    | exc c => rw [hf] at q; exact .inl ⟨F, ω, env, r, by rw [hf]; exact q⟩
    | ok x =>
      rw [hf] at q
      cases x with
      | lst xs =>
        refine .inl ⟨F, ω, env, r, ?_⟩
        rw [hf]
        intro F' ω' H' v l w s _
        obtain ⟨a, vs, e1, e2, rr⟩ := s
        exact ⟨a, e1, ⟨vs, SqL.of (w.f _ _ e2)⟩, q F' ω' H' _ l w (by rw [if_pos rfl]; exact itl_ok (fun H2 s2 => SqL.of (s2 _ _ e2)) rr)⟩
      | ro ns =>
        refine .inl ⟨F, ω, env, r, ?_⟩
        rw [hf]
        intro F' ω' H' v l w s _
        obtain ⟨a, e1, e2⟩ := s
        exact ⟨a, e1, ⟨_, w.f.seq e2⟩, q F' ω' H' _ l w (by rw [if_pos rfl]; exact itl_ok (fun H2 s2 => s2.seq e2) (RepL.of_ints _ _))⟩
      | tup xs =>
        refine .inr ⟨F, ω, env, r, ?_⟩
        rw [hf]
        intro F' ω' H' v l w s _
        obtain ⟨a, vs, e1, e2, rr⟩ := s
        exact ⟨a, e1, ⟨vs, (e2.mono w.f).sq⟩, q F' ω' H' _ l w (by rw [if_pos rfl]; exact itt_ok (fun H2 s2 => (e2.mono s2).sq) rr)⟩
      | _ => exact q.elim
/-- over a list that is read alone (comprehensions) -/
theorem qi_r {f : Env → Rs PV} (h : QE P ds 3 e f) : QI P ds false tg e (iE f) :=
  PI.imp (PI.or (pi_list h) (pi_tup h)) fun σ H R ⟨F, ω, env, r, q⟩ => by
    have q := Rs.wp_bind.mp q
    cases hf : f env with
    | stuck => rw [hf] at q; exact q.elim
    | exc c => rw [hf] at q; exact .inl ⟨F, ω, env, r, by rw [hf]; exact q⟩
    | ok x =>
      rw [hf] at q
      cases x with
      | lst xs =>
        refine .inl ⟨F, ω, env, r, ?_⟩
        rw [hf]
        intro F' ω' H' v l w s _
        obtain ⟨a, vs, e1, e2, rr⟩ := Rv.lst w s
        exact ⟨a, e1, ⟨vs, SqL.of e2⟩, q F' ω' H' _ l w (by rw [if_neg Bool.false_ne_true]; exact itl_ok (fun H2 s2 => SqL.of (s2 _ _ e2)) rr)⟩
      | ro ns =>
        refine .inl ⟨F, ω, env, r, ?_⟩
        rw [hf]
        intro F' ω' H' v l w s _
        obtain ⟨a, e1, e2⟩ := Rv.ro w s
        exact ⟨a, e1, ⟨_, e2⟩, q F' ω' H' _ l w (by rw [if_neg Bool.false_ne_true]; exact itl_ok (fun H2 s2 => s2.seq e2) (RepL.of_ints _ _))⟩
      | tup xs =>
        refine .inr ⟨F, ω, env, r, ?_⟩
        rw [hf]
        intro F' ω' H' v l w s _
        obtain ⟨a, vs, e1, e2, rr⟩ := Rv.tup w s
        exact ⟨a, e1, ⟨vs, e2.sq⟩, q F' ω' H' _ l w (by rw [if_neg Bool.false_ne_true]; exact itt_ok (fun H2 s2 => (e2.mono s2).sq) rr)⟩
      | _ => exact q.elim
/-- what is frozen does not change -/
theorem QI.wk {f : Env → Rs (List PV)} (h : QI P ds true tg e f) : QI P ds false tg e f :=
  PI.imp h fun σ H R ⟨F, ω, env, r, q⟩ => ⟨F, ω, env, r, Rs.wp_mono q (fun _ z => z) fun xs hx F' ω' H' J l w i => hx F' ω' H' J l w (by
    rw [if_neg Bool.false_ne_true]
    rw [if_pos rfl] at i
    obtain ⟨Gd, Y, h1, h2, h3⟩ := i
    exact ⟨Gd, Y, h1, fun H2 s => h2 H2 (w.f.trans s), fun i Hh v H2 x e s1 s2 y => h3 i Hh v H2 x e s2 s2 y⟩)⟩
/-! ranges -/
def rng (lo hi : Int) : List PV := (List.range (hi - lo).toNat).map fun k => PV.int (lo + (k : Nat))
@[simp] def iR (f : Env → Rs (List PV)) (env : Env) : Rs (List PV) := (f env).bind fun xs => match xs with
  | [.int j] => if j.natAbs < 4611686018427387904 then .ok (rng 0 j) else .stuck
  | [.int i, .int j] => if i.natAbs < 4611686018427387904 ∧ j.natAbs < 4611686018427387904 then .ok (rng i j) else .stuck
  | _ => .stuck
theorem rng_len (lo hi : Int) : (rng lo hi).length = (hi - lo).toNat := by unfold rng; rw [List.length_map, List.length_range]
theorem itr_ok {K : PySem.W.Frag} {F B : Hp} {lo hi : Int} : ItOk K F B (Itr lo (hi - lo).toNat) (rng lo hi) :=
  ⟨_, _, by rw [rng_len]; exact walk_range, fun _ _ => True.intro, fun i Hh v H' x e _ _ y => .inl (by
    obtain ⟨y1, y2⟩ := y
    unfold rng at e
    rw [List.getElem?_map] at e
    obtain ⟨k, h1, h2⟩ := Option.map_eq_some_iff.mp e
    obtain ⟨h3, h4⟩ := List.getElem?_eq_some_iff.mp h1
    rw [List.getElem_range] at h4
    subst h4 h2
    exact ⟨y1, y2⟩)⟩
theorem qi_range1 {f : Env → Rs (List PV)} (hg : Gl P.X "range") (hm : P.X.mg "range" = none) (ha : QR P ds [a] f) (hs : starEach [a] P.X.env = [(false, eval a P.X.env)] := by rfl) : QI P ds true tg (.Call (.Name "range" p) [a] [] pos) (iR f) :=
  PI.imp (pi_range1 hg hm ha.1 hs) fun σ H R ⟨F, ω, env, r, q⟩ => by
    have q := Rs.wp_bind.mp q
    cases hf : f env with
    | stuck => rw [hf] at q; exact q.elim
    | exc c => rw [hf] at q; exact ⟨F, ω, env, r, by rw [hf]; exact q⟩
    | ok xs =>
      have hl := ha.2 env xs hf
      rw [hf] at q
      match xs, hl with
      | [y], _ =>
        cases y <;> first | exact q.elim | skip
        rename_i j _
        obtain ⟨hz, q⟩ := ite_ok q
        have hz : -(2 ^ 62) ≤ j ∧ j < 2 ^ 62 := by omega
        refine ⟨F, ω, env, r, ?_⟩
        rw [hf]
        intro F' ω' H' vs l w s
        obtain ⟨v, rfl, q1⟩ := rv1 s
        refine ⟨j, by rw [q1.int], hz.1, hz.2, q F' ω' H' _ l w ?_⟩
        have e : j.toNat = (j - 0).toNat := by rw [Int.sub_zero]
        rw [e]; exact itr_ok
theorem qi_range2 {f : Env → Rs (List PV)} (hg : Gl P.X "range") (hm : P.X.mg "range" = none) (ha : QR P ds [a, b] f) (hs : starEach [a, b] P.X.env = [(false, eval a P.X.env), (false, eval b P.X.env)] := by rfl) (hs2 : starEach [b] P.X.env = [(false, eval b P.X.env)] := by rfl) :
    QI P ds true tg (.Call (.Name "range" p) [a, b] [] pos) (iR f) :=
  PI.imp (pi_range2 hg hm ha.1 hs hs2) fun σ H R ⟨F, ω, env, r, q⟩ => by
    have q := Rs.wp_bind.mp q
    cases hf : f env with
    | stuck => rw [hf] at q; exact q.elim
    | exc c => rw [hf] at q; exact ⟨F, ω, env, r, by rw [hf]; exact q⟩
    | ok xs =>
      have hl := ha.2 env xs hf
      rw [hf] at q
      match xs, hl with
      | [y, z], _ =>
        cases y <;> first | exact q.elim | skip
        rename_i i _
        cases z <;> first | exact q.elim | skip
        rename_i j _
        obtain ⟨⟨h1, h2⟩, q⟩ := ite_ok q
        have h1 : -(2 ^ 62) ≤ i ∧ i < 2 ^ 62 := by omega
        have h2 : -(2 ^ 62) ≤ j ∧ j < 2 ^ 62 := by omega
        refine ⟨F, ω, env, r, ?_⟩
        rw [hf]
        intro F' ω' H' vs l w s
        obtain ⟨v, u, rfl, q1, q2⟩ := rv2 s
        exact ⟨i, j, by rw [q1.int, q2.int], ⟨h1.1, h1.2, h2.1, h2.2⟩, q F' ω' H' _ l w itr_ok⟩
/-! enumerate, zip, reversed -/
def enm (xs : List PV) : List PV := xs.zipIdx.map fun y => .tup [.int (y.2 : Nat), y.1]
@[simp] def iEn (f : Env → Rs (List PV)) (env : Env) : Rs (List PV) := (f env).bind fun xs => match xs with
  | [.lst ys] => .ok (enm ys)
  | _ => .stuck
def zp (xs ys : List PV) : List PV := (xs.zip ys).map fun y => .tup [y.1, y.2]
@[simp] def iZp (f : Env → Rs (List PV)) (env : Env) : Rs (List PV) := (f env).bind fun xs => match xs with
  | [.lst xs, .lst ys] => .ok (zp xs ys)
  | _ => .stuck
@[simp] def iRv (f : Env → Rs (List PV)) (env : Env) : Rs (List PV) := (f env).bind fun xs => match xs with
  | [.lst ys] => .ok ys.reverse
  | _ => .stuck
theorem enm_len (xs : List PV) : (enm xs).length = xs.length := by unfold enm; simp
theorem ite_ok' {K : PySem.W.Frag} {F B : Hp} {a : Addr} {vs : List V} {xs : List PV} (hB : ∀ H', Same B H' → SqL K H' a vs) (r : RepL K F xs vs) : ItOk K F B (Ite K a) (enm xs) :=
  ⟨_, _, by rw [enm_len, ← r.length]; exact walk_enum, hB, fun i Hh v H' x e _ _ yy => .inr (by
    obtain ⟨T, y, z, h1, h2, h3, h4, h5⟩ := yy
    unfold enm at e
    rw [List.getElem?_map, List.getElem?_zipIdx] at e
    cases q : xs[i]? with
    | none => rw [q] at e; cases e
    | some y' =>
      rw [q] at e
      cases e
      obtain ⟨u, k1, k2⟩ := r.get q
      have h5 : vs[i]? = some z := h5
      rw [k1] at h5; cases h5
      cases h4
      exact ⟨T, _, _, h1, h2, h3, rfl, _, _, rfl, by simp; rfl, RepL.cons k2 rfl⟩)⟩
theorem zip_ok {K : PySem.W.Frag} {F B : Hp} {a b : Addr} {vs us : List V} {xs ys : List PV} (hB : ∀ H', Same B H' → SqL K H' a vs ∧ SqL K H' b us) (r : RepL K F xs vs) (r2 : RepL K F ys us) : ItOk K F B (Itz K a b) (zp xs ys) :=
  ⟨_, _, by
    have e : (zp xs ys).length = min vs.length us.length := by unfold zp; rw [List.length_map, List.length_zip, r.length, r2.length]
    rw [e]; exact walk_zip rfl, hB, fun i Hh v H' x e _ _ yy => .inr (by
    obtain ⟨T, y, z, h1, h2, h3, h4, h5⟩ := yy
    unfold zp at e
    rw [List.getElem?_map] at e
    obtain ⟨⟨y1, z1⟩, q1, q2⟩ := Option.map_eq_some_iff.mp e
    obtain ⟨q3, q4⟩ := List.getElem?_zip_eq_some.mp q1
    obtain ⟨u, k1, k2⟩ := r.get q3
    obtain ⟨u2, k3, k4⟩ := r2.get q4
    have h4 : vs[i]? = some y := h4
    have h5 : us[i]? = some z := h5
    rw [k1] at h4; cases h4
    rw [k3] at h5; cases h5
    subst q2
    exact ⟨T, _, _, h1, h2, h3, rfl, RepL.cons k2 (RepL.cons k4 rfl)⟩)⟩
theorem rev_ok {K : PySem.W.Frag} {F B : Hp} {a : Addr} {vs : List V} {xs : List PV} (hB : ∀ H', Same B H' → SqL K H' a vs) (r : RepL K F xs vs) : ItOk K F B (Itv K a vs.length) xs.reverse :=
  ⟨_, _, by rw [List.length_reverse, ← r.length]; exact walk_rev, hB, fun i Hh v H' x e _ _ y => .inl (by
    obtain ⟨y1, y2⟩ := y
    have hi : i < xs.length := by
      have := (List.getElem?_eq_some_iff.mp e).1
      rw [List.length_reverse] at this; exact this
    rw [List.getElem?_reverse hi] at e
    obtain ⟨u, k1, k2⟩ := r.get e
    rw [r.length] at y2
    rw [k1] at y2; cases y2
    exact ⟨y1, k2⟩)⟩
/-- one argument, of a list -/
theorem qi_1 {f : Env → Rs (List PV)} {g : List PV → List PV} {wi : TI} {J : Addr → List V → It} (h : PI P.X tg e wi) (hw : ∀ {σ H R}, liftB P ds f σ H (fun vs H1 => ∃ a ws, vs = [.ref a] ∧ SqL P.X.K H1 a ws ∧ R (J a ws) H1) → wi σ H R)
    (hJ : ∀ {F B : Hp} {a : Addr} {vs : List V} {xs : List PV}, (∀ H', Same B H' → SqL P.X.K H' a vs) → RepL P.X.K F xs vs → ItOk P.X.K F B (J a vs) (g xs)) : QI P ds false tg e (fun env => (f env).bind fun xs => match xs with | [.lst ys] => .ok (g ys) | _ => .stuck) :=
  PI.imp h fun σ H R ⟨F, ω, env, r, q⟩ => hw (liftB.to r (Rs.wp_bind.mp q) (fun _ z => z) fun xs hx F' ω' H' vs l w s => by
    split at hx
    · obtain ⟨v, rfl, q1⟩ := rv1 s
      obtain ⟨a, ws, rfl, e2, rr⟩ := q1.lst w
      exact ⟨a, ws, rfl, SqL.of e2, hx F' ω' H' _ l w (by rw [if_neg Bool.false_ne_true]; exact hJ (fun H2 s2 => SqL.of (s2 _ _ e2)) rr)⟩
    · exact hx.elim)
theorem qi_1z {f : Env → Rs (List PV)} {g : List PV → List PV} {wi : TI} {J : Addr → List V → It} (h : PI P.X tg e wi) (hw : ∀ {σ H R}, liftA P ds f σ H (fun vs H1 => ∃ a ws, vs = [.ref a] ∧ SqL P.X.K H1 a ws ∧ R (J a ws) H1) → wi σ H R)
    (hJ : ∀ {F B : Hp} {a : Addr} {vs : List V} {xs : List PV}, (∀ H', Same B H' → SqL P.X.K H' a vs) → RepL P.X.K F xs vs → ItOk P.X.K F B (J a vs) (g xs)) : QI P ds true tg e (fun env => (f env).bind fun xs => match xs with | [.lst ys] => .ok (g ys) | _ => .stuck) :=
  PI.imp h fun σ H R ⟨F, ω, env, r, q⟩ => hw (liftA.to r (Rs.wp_bind.mp q) (fun _ z => z) fun xs hx F' ω' H' vs l w s => by
    split at hx
    · obtain ⟨v, us, e0, ⟨a, ws, e1, e2, rr⟩, e3⟩ := s
      rw [show us = [] from e3] at e0
      subst e0 e1
      exact ⟨a, ws, rfl, SqL.of (w.f _ _ e2), hx F' ω' H' _ l w (by rw [if_pos rfl]; exact hJ (fun H2 s2 => SqL.of (s2 _ _ e2)) rr)⟩
    · exact hx.elim)
theorem qi_enum {f : Env → Rs (List PV)} {elts : List Expr} {kk : Nat} {tpos : Pos} (hg : Gl P.X "enumerate") (hm : P.X.mg "enumerate" = none) (ha : QA P ds [e] f) (hs : starEach [e] P.X.env = [(false, eval e P.X.env)] := by rfl) : QI P ds true (.Tuple elts kk tpos) (.Call (.Name "enumerate" p) [e] [] pos) (iEn f) :=
  qi_1z (g := enm) (J := fun a _ => Ite P.X.K a) (pi_enum hg hm ha.1 hs) (fun h => h) (fun hB r => ite_ok' hB r)
theorem qi_enumR {f : Env → Rs (List PV)} {elts : List Expr} {kk : Nat} {tpos : Pos} (hg : Gl P.X "enumerate") (hm : P.X.mg "enumerate" = none) (ha : QR P ds [e] f) (hs : starEach [e] P.X.env = [(false, eval e P.X.env)] := by rfl) : QI P ds false (.Tuple elts kk tpos) (.Call (.Name "enumerate" p) [e] [] pos) (iEn f) :=
  qi_1 (g := enm) (J := fun a _ => Ite P.X.K a) (pi_enum hg hm ha.1 hs) (fun h => h) (fun hB r => ite_ok' hB r)
theorem qi_rev {f : Env → Rs (List PV)} (hg : Gl P.X "reversed") (hm : P.X.mg "reversed" = none) (ha : QA P ds [e] f) (hs : starEach [e] P.X.env = [(false, eval e P.X.env)] := by rfl) : QI P ds true tg (.Call (.Name "reversed" p) [e] [] pos) (iRv f) :=
  qi_1z (g := List.reverse) (J := fun a ws => Itv P.X.K a ws.length) (pi_reversed hg hm ha.1 hs) (fun h => h) (fun hB r => rev_ok hB r)
theorem qi_zip {f : Env → Rs (List PV)} {elts : List Expr} {kk : Nat} {tpos : Pos} (hg : Gl P.X "zip") (hm : P.X.mg "zip" = none) (ha : QA P ds [a, b] f) (hs : starEach [a, b] P.X.env = (false, eval a P.X.env) :: starEach [b] P.X.env := by rfl) (hpl : (backTo pos (starEach [b] P.X.env)).any (·.1) = false := by rfl) :
    QI P ds true (.Tuple elts kk tpos) (.Call (.Name "zip" p) [a, b] [] pos) (iZp f) :=
  PI.imp (pi_zip hg hm ha.1 hs hpl) fun σ H R ⟨F, ω, env, r, q⟩ => liftA.to r (Rs.wp_bind.mp q) (fun _ z => z) fun xs hx F' ω' H' vs l w s => by
    split at hx
    · obtain ⟨v, us, e0, ⟨a, ws, e1, e2, rr⟩, v2, us2, e3, ⟨b, ws2, e4, e5, rr2⟩, e6⟩ := s
      rw [show us2 = [] from e6] at e3
      subst e3 e4 e0 e1
      exact ⟨a, b, ws, ws2, rfl, SqL.of (w.f _ _ e2), SqL.of (w.f _ _ e5), hx F' ω' H' _ l w (by rw [if_pos rfl]; exact zip_ok (fun H2 s2 => ⟨SqL.of (s2 _ _ e2), SqL.of (s2 _ _ e5)⟩) rr rr2)⟩
    · exact hx.elim
theorem qi_zipR {f : Env → Rs (List PV)} {elts : List Expr} {kk : Nat} {tpos : Pos} (hg : Gl P.X "zip") (hm : P.X.mg "zip" = none) (ha : QR P ds [a, b] f) (hs : starEach [a, b] P.X.env = (false, eval a P.X.env) :: starEach [b] P.X.env := by rfl) (hpl : (backTo pos (starEach [b] P.X.env)).any (·.1) = false := by rfl) :
    QI P ds false (.Tuple elts kk tpos) (.Call (.Name "zip" p) [a, b] [] pos) (iZp f) :=
  PI.imp (pi_zip hg hm ha.1 hs hpl) fun σ H R ⟨F, ω, env, r, q⟩ => liftB.to r (Rs.wp_bind.mp q) (fun _ z => z) fun xs hx F' ω' H' vs l w s => by
    split at hx
    · obtain ⟨v, u, rfl, q1, q2⟩ := rv2 s
      obtain ⟨a, ws, rfl, e2, rr⟩ := q1.lst w
      obtain ⟨b, ws2, rfl, e5, rr2⟩ := q2.lst w
      exact ⟨a, b, ws, ws2, rfl, SqL.of e2, SqL.of e5, hx F' ω' H' _ l w (by rw [if_neg Bool.false_ne_true]; exact zip_ok (fun H2 s2 => ⟨SqL.of (s2 _ _ e2), SqL.of (s2 _ _ e5)⟩) rr rr2)⟩
    · exact hx.elim

/-! ### comprehensions -/
@[simp] def wipeE (env : Env) : List Nat → Env
  | [] => env
  | v :: vs => (wipeE env vs).set v none
def compL (g : PV → Env → Rs Env) (tt : Env → Rs Bool) (fe : Env → Rs PV) (env : Env) : List PV → Rs (List PV)
  | [] => .ok []
  | x :: xs => (g x env).bind fun e => (tt e).bind fun k => if k = true then (fe e).bind fun y => (compL g tt fe env xs).bind fun ys => .ok (y :: ys) else compL g tt fe env xs
@[simp] def eLc (own : List Nat) (fi : Env → Rs (List PV)) (tg : Tg) (tt : Env → Rs Bool) (fe : Env → Rs PV) (env : Env) : Rs PV := (fi env).bind fun xs => if xs.length ≤ lim then (compL (tgS tg) tt fe (wipeE env own) xs).noexc.bind fun ys => .ok (.lst ys) else .stuck
def Px.blk (P : Px) (s : Shared) (H : Hp) (scope : Scope) (C : Addr) (cl : List (Str × Addr)) (fp : List Addr) : Px := { P with X := P.X.blk s H scope (compEnvC scope cl C P.X.env) fp, W := fun _ _ _ _ => False }
def QTs (P : Px) (ds : List Nat) (ifs : List Expr) (f : Env → Rs Bool) : Prop := PTs P.X ifs (liftT P ds f)
theorem PTs.imp {X : Cx} {ifs : List Expr} {t t' : TT} (h : PTs X ifs t) (i : ∀ σ H Q, t' σ H Q → t σ H Q) : PTs X ifs t' := ⟨fun p s σ H Q I q => h.run p s σ H Q I (i _ _ _ q)⟩
@[simp] def tYesD (_ : Env) : Rs Bool := .ok true
theorem qts_nil : QTs P ds [] tYesD := PTs.imp pts_nil fun σ H Q ⟨F, ω, env, r, q⟩ => q F ω H (.refl F ω H) r.wd
theorem qts_one {f : Env → Rs Bool} (h : QT P ds c f) : QTs P ds [c] f := pts_one h
theorem Rel.wipe {K : PySem.W.Frag} {G : Gh} {F : Hp} {ω : Om} {env : Env} {σ : St} {H : Hp} (r : Rel K G ds F ω env σ H) : ∀ vs : List Nat, Rel K G ds F ω (wipeE env vs) (L2.wipe σ vs) H
  | [] => r
  | v :: vs => by
    have r := Rel.wipe r vs
    have inv : ∀ {j : Nat} {y : PV}, ((wipeE env vs).set v none)[j]? = some (some y) → j ≠ v ∧ (wipeE env vs)[j]? = some (some y) := fun {j y} e => by
      by_cases hj : j = v
      · subst hj
        by_cases hl : j < (wipeE env vs).length
        · rw [List.getElem?_set_self hl] at e; cases e
        · rw [List.getElem?_eq_none (by simpa using hl)] at e; cases e
      · rw [List.getElem?_set_ne (Ne.symm hj)] at e; exact ⟨hj, e⟩
    refine ⟨r.wd, fun j y e => ?_, fun j m y z u hjm hd1 hd2 e1 e2 e3 e4 => ?_, ?_⟩
    · obtain ⟨hj, e⟩ := inv e
      obtain ⟨u, h1, h2⟩ := r.sl j y e
      exact ⟨u, (List.getElem?_set_ne (Ne.symm hj)).trans h1, h2⟩
    · obtain ⟨hj, e1⟩ := inv e1
      obtain ⟨hm, e2⟩ := inv e2
      exact r.ap j m y z u hjm hd1 hd2 e1 e2 ((List.getElem?_set_ne (Ne.symm hj)).symm.trans e3) ((List.getElem?_set_ne (Ne.symm hm)).symm.trans e4)
    · show ((wipeE env vs).set v none).length = ((L2.wipe σ vs).set v none).length
      rw [List.length_set, List.length_set]; exact r.ln
theorem wipe_get {σ σ' : St} (hl : σ'.length = σ.length) : ∀ {vs : List Nat}, (∀ j, j ∉ vs → σ'[j]? = σ[j]?) → wipe σ' vs = wipe σ vs := fun {vs} h => by
  have key : ∀ (τ : St) (vs : List Nat) (j : Nat), (wipe τ vs)[j]? = if j ∈ vs ∧ j < τ.length then some none else τ[j]? := by
    intro τ vs
    induction vs with
    | nil => intro j; simp [wipe]
    | cons v vs ih =>
      intro j
      show ((wipe τ vs).set v none)[j]? = _
      by_cases hj : v = j
      · subst hj
        by_cases hl : v < τ.length
        · rw [List.getElem?_set_self (by rw [wipe_length]; exact hl), if_pos ⟨List.mem_cons_self, hl⟩]
        · rw [if_neg (fun z => hl z.2), List.getElem?_eq_none (by rw [List.length_set, wipe_length]; omega), List.getElem?_eq_none (by omega)]
      · rw [List.getElem?_set_ne hj, ih j]
        by_cases hm : j ∈ vs ∧ j < τ.length
        · rw [if_pos hm, if_pos ⟨List.mem_cons_of_mem _ hm.1, hm.2⟩]
        · rw [if_neg hm, if_neg fun z => hm ⟨(List.mem_cons.mp z.1).resolve_left (fun e => hj e.symm), z.2⟩]
  refine List.ext_getElem? fun j => ?_
  rw [key, key, hl]
  by_cases hm : j ∈ vs
  · by_cases hj : j < σ.length
    · rw [if_pos ⟨hm, hj⟩, if_pos ⟨hm, hj⟩]
    · rw [if_neg (fun z => hj z.2), if_neg (fun z => hj z.2), List.getElem?_eq_none (by omega), List.getElem?_eq_none (by omega)]
  · rw [if_neg (fun z => hm z.1), if_neg (fun z => hm z.1), h j hm]
theorem wipe_wipe (σ : St) (vs : List Nat) : wipe (wipe σ vs) vs = wipe σ vs := by
  have sub : ∀ (ws : List Nat) (j : Nat), j ∉ ws → (wipe σ ws)[j]? = σ[j]? := by
    intro ws
    induction ws with
    | nil => intro j _; rfl
    | cons w ws ih =>
      intro j hj
      show ((wipe σ ws).set w none)[j]? = _
      rw [List.getElem?_set_ne (fun e => hj (by simp [e])), ih j fun z => hj (List.mem_cons_of_mem _ z)]
  exact wipe_get (wipe_length σ vs) fun j hj => sub vs j hj
/-- an item that was yielded stands in the frozen part -/
theorem ItOk.yld {P : Px} {F0 F : Hp} {ω : Om} {H Hn : Hp} {v : V} {x : PV} (w : Wd P.G F ω H) (sf : Same F0 F) (h : (Hn = H ∧ Rep P.X.K F0 x v) ∨ ∃ T vs ys, v = .ref T ∧ H T = none ∧ Hn = upd H T (.tup vs) ∧ x = .tup ys ∧ RepL P.X.K F0 ys vs) :
    ∃ F', Wd P.G F' ω Hn ∧ Le F ω H F' ω Hn ∧ Rep P.X.K F' x v := by
  rcases h with ⟨rfl, h⟩ | ⟨T, vs, ys, rfl, h2, rfl, rfl, h⟩
  · exact ⟨F, w, .refl F ω Hn, h.mono sf⟩
  · obtain ⟨w', l⟩ := w.frz (o := .tup vs) h2
    exact ⟨_, w', l, T, vs, rfl, .inl upd_same, h.mono (sf.trans l.f)⟩
theorem Wd.mut {G : Gh} {F : Hp} {ω : Om} {H : Hp} {p : Addr} {l : Addr × Option Nat} {vs : List V} (w : Wd G F ω H) (h : ω p = some l) : Wd G F ω (upd H p (.lst vs)) := by
  obtain ⟨h1, h2, us, h3⟩ := w.om p l h
  refine ⟨fun b u e => ?_, w.f0, fun b u e => ?_, w.nw, fun q l' e => ?_⟩
  · rw [upd_ne (ne_of_none e h2)]; exact w.h0 b u e
  · rw [upd_ne (ne_of_none e h1)]; exact w.f b u e
  · obtain ⟨k1, k2, ws, k3⟩ := w.om q l' e
    by_cases hq : q = p
    · subst hq; exact ⟨k1, k2, vs, upd_same⟩
    · exact ⟨k1, k2, ws, by rw [upd_ne hq]; exact k3⟩
/-- an owned list is frozen -/
theorem Wd.freeze {G : Gh} {F : Hp} {ω : Om} {H : Hp} {p : Addr} {l : Addr × Option Nat} {vs : List V} (w : Wd G F ω H) (h : ω p = some l) (hH : H p = some (.lst vs)) : Wd G (upd F p (.lst vs)) (fun q => if q = p then none else ω q) H ∧ Same F (upd F p (.lst vs)) := by
  obtain ⟨h1, h2, us, h3⟩ := w.om p l h
  have sf : Same F (upd F p (.lst vs)) := fun b u e => by rw [upd_ne (ne_of_none e h1)]; exact e
  refine ⟨⟨w.h0, w.f0.trans sf, fun b u e => ?_, fun a xs o' e e' => ?_, fun q l' e => ?_⟩, sf⟩
  · by_cases hb : b = p
    · subst hb; rw [upd_same] at e; rw [hH]; exact e
    · rw [upd_ne hb] at e; exact w.f b u e
  · by_cases hb : a = p
    · subst hb; rw [h2] at e'; cases e'
    · rw [upd_ne hb] at e; exact w.nw a xs o' e e'
  · by_cases hq : q = p
    · rw [if_pos hq] at e; cases e
    · rw [if_neg hq] at e
      obtain ⟨k1, k2, ws, k3⟩ := w.om q l' e
      exact ⟨by rw [upd_ne hq]; exact k1, k2, ws, k3⟩
theorem lc_to {own : List Nat} {d : Nat} (hd : d ≤ 1) {fi : Env → Rs (List PV)} {tgt : Tg} {tt : Env → Rs Bool} {fe : Env → Rs PV} (hsub : ∀ j ∈ tgI tgt, j ∈ own) {σ : St} {H : Hp} {Q : VK} {bb : Bool}
    (h : lift P ds d (eLc own fi tgt tt fe) σ H Q) :
    tLc (liftI P ds bb fi) (liftG P ds (tgS tgt) (tgI tgt)) (liftT { P with W := fun _ _ _ _ => False } ds tt) (lift { P with W := fun _ _ _ _ => False } ds 0 fe) own σ H Q := by
  obtain ⟨F, ω, env, r, q⟩ := h
  refine ⟨F, ω, env, r, Rs.wp_mono (Rs.wp_bind.mp q) (fun _ z => z) fun xs hx F1 ω1 H1 J l1 w1 it D hD => ?_⟩
  by_cases hz : xs.length ≤ lim
  case neg => rw [if_neg hz] at hx; exact hx.elim
  rw [if_pos hz] at hx
  obtain ⟨Gd, Y, W, hG, hY⟩ := it
  have hx : (compL (tgS tgt) tt fe (wipeE env own) xs).wp (fun _ => False) fun ys => Val P d F ω H (.lst ys) Q := noexc_wp (Rs.wp_bind.mp hx)
  have r1 := (r.mono l1 w1).wipe own
  have sB : ∀ {H' : Hp}, Same H1 H' → Same (if bb = true then F1 else H1) H' := fun {H'} s => by
    cases bb
    · exact s
    · exact w1.f.trans s
  have nD : ω1 D = none := by
    cases q : ω1 D with
    | none => rfl
    | some l => obtain ⟨_, _, vs, h3⟩ := w1.om D l q; rw [hD] at h3; cases h3
  refine lc_it W (fun i H' => ∃ F' ω' acc vs, Le F1 ω1 H1 F' ω' H' ∧ Wd P.G F' ω' H' ∧ ω' D = some (D, none) ∧ H' D = some (.lst vs) ∧ RepL P.X.K F' acc vs ∧ acc.length ≤ i ∧
      (compL (tgS tgt) tt fe (wipeE env own) (xs.drop i)).wp (fun _ => False) fun ys => Val P d F ω H (.lst (acc ++ ys)) Q) ?_ (fun i H' _ ⟨F', ω', acc, vs, l', _⟩ => hG H' (sB l'.h)) ?_ ?_
  · obtain ⟨w2, l2⟩ := w1.own (vs := []) hD
    exact ⟨F1, _, [], [], l2, w2, if_pos rfl, upd_same, rfl, Nat.le_refl _, by rw [List.drop_zero]; exact hx⟩
  · rintro i v H2 H3 hi ⟨F', ω', acc, vs, l', w', oD, hHD, ra, hacc, hc⟩ hy
    have ex : xs[i]? = some xs[i] := by simp [hi]
    obtain ⟨F2, w2, l2, rv⟩ := ItOk.yld w' l'.f (hY i H2 v H3 xs[i] ex (sB l'.h) (l'.f.trans w'.f) hy)
    rw [List.drop_eq_getElem_cons hi] at hc
    have hc : ((tgS tgt xs[i] (wipeE env own)).bind fun e => (tt e).bind fun k => if k = true then (fe e).bind fun y => (compL (tgS tgt) tt fe (wipeE env own) (xs.drop (i + 1))).bind fun ys => .ok (y :: ys) else compL (tgS tgt) tt fe (wipeE env own) (xs.drop (i + 1))).wp (fun _ => False) fun ys => Val P d F ω H (.lst (acc ++ ys)) Q := hc
    have l3 := l'.trans l2
    refine ⟨F2, ω', _, xs[i], r1.mono l3 w2, rv, Rs.wp_mono (Rs.wp_bind.mp hc) (fun _ z => z) fun env2 hc2 σ2 r2 n2 len2 => ⟨?_, ?_⟩⟩
    · rw [wipe_get (vs := own) (len2.trans rfl) (fun j hj => n2 j fun z => hj (hsub j z)), wipe_wipe]
    · refine ⟨F2, ω', env2, r2, Rs.wp_mono (Rs.wp_bind.mp hc2) (fun _ z => z.elim) fun k hk F4 ω4 H4 l4 w4 => ?_⟩
      have r4 := r2.mono l4 w4
      have l5 := l3.trans l4
      cases k with
      | false =>
        rw [if_neg Bool.false_ne_true] at hk
        exact iteF ⟨F4, ω4, acc, vs, l5, w4, l4.o _ _ oD, l4.h _ _ (l2.h _ _ hHD), (ra.mono l2.f).mono l4.f, Nat.le_succ_of_le hacc, hk⟩
      | true =>
        rw [if_pos rfl] at hk
        refine iteT ⟨F4, ω4, env2, r4, Rs.wp_mono (Rs.wp_bind.mp hk) (fun _ z => z.elim) fun y hk F5 ω5 H5 u l6 w5 s5 _ => ?_⟩
        have s5 : Rep P.X.K F5 y u := s5
        have oD5 := l6.o _ _ (l4.o _ _ oD)
        have hD5 := l6.h _ _ (l4.h _ _ (l2.h _ _ hHD))
        have ra5 := ((ra.mono l2.f).mono l4.f).mono l6.f
        have l7 := l5.trans l6
        refine ⟨vs, hD5, ?_, F5, ω5, acc ++ [y], vs ++ [u], ⟨l7.f, l7.o, fun b o e => ?_⟩, w5.mut oD5, oD5, upd_same, ra5.append (RepL.cons s5 rfl), ?_, ?_⟩
        · rw [lim_eq, ra5.length]; omega
        · rw [upd_ne (ne_of_none e hD)]; exact l7.h b o e
        · rw [List.length_append, List.length_singleton]; omega
        · refine Rs.wp_mono (Rs.wp_bind.mp hk) (fun _ z => z) fun ys hys => ?_
          rw [List.append_assoc]; exact hys
  · rintro H2 ⟨F', ω', acc, vs, l', w', oD, hHD, ra, hacc, hc⟩
    rw [List.drop_length] at hc
    have hc : Val P d F ω H (.lst (acc ++ [])) Q := hc
    rw [List.append_nil] at hc
    have fr : ∀ p, V.ref D = .ref p → H p = none := fun p e => by cases e; exact l1.h.free hD
    match d, hd with
    | 1, _ => exact hc F' ω' H2 _ (l1.trans l') w' ⟨D, vs, acc, rfl, rfl, hHD, oD, ra⟩ fun _ => fr
    | 0, _ =>
      obtain ⟨w2, sf⟩ := w'.freeze oD hHD
      refine hc _ _ H2 _ ⟨l1.f.trans (l'.f.trans sf), fun p l e => ?_, l1.h.trans l'.h⟩ w2 ⟨D, vs, rfl, upd_same, ra.mono sf⟩ (by omega)
      have e1 := l1.o _ _ e
      have hp : p ≠ D := fun z => by rw [z, nD] at e1; cases e1
      show (if p = D then none else ω' p) = some l
      rw [if_neg hp]; exact l'.o _ _ e1
/-- [elt for tg in iter if ..] -/
theorem qe_lc {d : Nat} (hd : d ≤ 1) {iter elt : Expr} {ifs : List Expr} {scope : Scope} {own : List (Str × Nat)} {bb : Bool} {fi : Env → Rs (List PV)} {tgt : Tg} {tt : Env → Rs Bool} {fe : Env → Rs PV} (hc : P.X.calm = true) (hN : P.X.N.Nodup) (hi : QI P ds bb tg iter fi)
    (ok : BlkOk P.X.N P.X.env.scope scope own) (hsub : ∀ j ∈ tgI tgt, j ∈ own.map (·.2)) (hg : ∀ (s : Shared) (H : Hp) (C : Addr) (cl : List (Str × Addr)) (fp : List Addr), QG (P.blk s H scope C cl fp) ds tg tgt) (ht : ∀ (s : Shared) (H : Hp) (C : Addr) (cl : List (Str × Addr)) (fp : List Addr), QTs (P.blk s H scope C cl fp) ds ifs tt)
    (he : ∀ (s : Shared) (H : Hp) (C : Addr) (cl : List (Str × Addr)) (fp : List Addr), QE (P.blk s H scope C cl fp) ds 0 elt fe) (hs : ∀ x, foldedSetIterable iter P.X.env x = pure x := by intro _; rfl) :
    QE P ds d (.ListComp elt [⟨tg, iter, ifs, 0⟩] scope pos) (eLc (own.map (·.2)) fi tgt tt fe) :=
  PE.imp (pe_lc (g := liftG P ds (tgS tgt) (tgI tgt)) (tt := liftT { P with W := fun _ _ _ _ => False } ds tt) (te := lift { P with W := fun _ _ _ _ => False } ds 0 fe) hc hN hi ok hg ht he hs) fun σ H Q h => lc_to hd hsub h
end
end Pw

namespace Pw
open PySem L2
theorem SOk.mono {P : Px} {ds : List Nat} {D : Ends} {F F' : Hp} (f : Same F F') : ∀ {o : Out}, SOk P ds D F o → SOk P ds D F' o
  | .nx _, h => fun F2 ω σ H s r => h F2 ω σ H (f.trans s) r
  | .rt _, h => h
theorem liftS.to {P : Px} {ds ds' : List Nat} {f : Env → Rs Out} {F F0 : Hp} {ω : Om} {env : Env} {σ : St} {H : Hp} {D : Ends} (r : Rel P.X.K P.G ds F ω env σ H) (sf : Same F0 F) (h : (f env).wp (ExcS P) (SOk P ds' D F0)) : liftS P ds ds' f D σ H :=
  ⟨F, ω, env, r, Rs.wp_mono h (fun _ z => z) fun _ z => z.mono sf⟩
section
variable {P : Px} {ds ds1 ds' : List Nat} {pos : Pos} {st : Stmt} {sts : List Stmt} {e : Expr} {d : Nat}
@[simp] def sNil (env : Env) : Rs Out := .ok (.nx env)
/-- then: what follows a statement -/
def thn (r : Rs Out) (g : Env → Rs Out) : Rs Out := r.bind fun o => match o with
  | .nx e => g e
  | .rt x => .ok (.rt x)
@[simp] theorem thn_nx (e : Env) (g : Env → Rs Out) : thn (.ok (.nx e)) g = g e := rfl
@[simp] theorem thn_rt (x : PV) (g : Env → Rs Out) : thn (.ok (.rt x)) g = .ok (.rt x) := rfl
@[simp] theorem thn_stuck (g : Env → Rs Out) : thn .stuck g = .stuck := rfl
@[simp] theorem thn_exc (c : Str) (g : Env → Rs Out) : thn (.exc c) g = .exc c := rfl
@[simp] def sSeq (f g : Env → Rs Out) (env : Env) : Rs Out := thn (f env) g
@[simp] theorem thn_thn (r : Rs Out) (g h : Env → Rs Out) : thn (thn r g) h = thn r (sSeq g h) := by
  rcases r with _ | _ | o
  · rfl
  · rfl
  · cases o <;> rfl
theorem qb_nil : QB P ds [] ds sNil := PSs.imp pss_nil fun D σ H ⟨F, ω, env, r, q⟩ => q F ω σ H (.refl F) r
theorem qb_cons {f g : Env → Rs Out} (h : QS P ds st ds1 f) (k : QB P ds1 sts ds' g) : QB P ds (st :: sts) ds' (sSeq f g) :=
  PSs.imp (pss_cons h k) fun D σ H ⟨F, ω, env, r, q⟩ => by
    refine ⟨F, ω, env, r, Rs.wp_mono (Rs.wp_bind.mp q) (fun _ z => z) fun o ho => ?_⟩
    cases o with
    | nx e => exact fun F2 ω2 σ2 H2 s r2 => liftS.to r2 s ho
    | rt x => exact ho
/-- an owned slot is frozen -/
theorem Rel.freeze {K : PySem.W.Frag} {G : Gh} {F : Hp} {ω : Om} {env : Env} {σ : St} {H : Hp} (r : Rel K G ds F ω env σ H) (i : Nat) (hd : ds.getD i 0 ≤ 1) : ∃ F' ω', Same F F' ∧ Rel K G (ds.set i 0) F' ω' env σ H := by
  have hds : ∀ j, (ds.set i 0).getD j 0 = if j = i then 0 else ds.getD j 0 := fun j => by
    rw [List.getD_eq_getElem?_getD, List.getD_eq_getElem?_getD]
    by_cases hj : j = i
    · subst hj
      rw [if_pos rfl]
      by_cases hl : j < ds.length
      · rw [List.getElem?_set_self hl]; rfl
      · rw [List.getElem?_eq_none (by rw [List.length_set]; omega)]; rfl
    · rw [if_neg hj, List.getElem?_set_ne (Ne.symm hj)]
  have ap' : ∀ a b x y v, a ≠ b → ((ds.set i 0).getD a 0 = 1 ∨ (ds.set i 0).getD a 0 = 2) → ((ds.set i 0).getD b 0 = 1 ∨ (ds.set i 0).getD b 0 = 2) → env[a]? = some (some x) → env[b]? = some (some y) → σ[a]? = some (some v) → σ[b]? ≠ some (some v) := fun a b x y v hab h1 h2 => by
    rw [hds] at h1 h2
    by_cases ha : a = i
    · rw [if_pos ha] at h1; omega
    · by_cases hb : b = i
      · rw [if_pos hb] at h2; omega
      · rw [if_neg ha] at h1; rw [if_neg hb] at h2; exact r.ap a b x y v hab h1 h2
  by_cases h1 : ds.getD i 0 = 0
  · refine ⟨F, ω, .refl F, r.wd, fun j x e => ?_, ap', r.ln⟩
    obtain ⟨v, q1, q2⟩ := r.sl j x e
    refine ⟨v, q1, ?_⟩
    rw [hds]
    by_cases hj : j = i
    · subst hj; rw [if_pos rfl]; rw [h1] at q2; exact q2
    · rw [if_neg hj]; exact q2
  · have h1 : ds.getD i 0 = 1 := by omega
    cases he : (env[i]?).join with
    | none =>
      have he : ∀ x, env[i]? ≠ some (some x) := fun x q => by rw [q] at he; cases he
      refine ⟨F, ω, .refl F, r.wd, fun j x e => ?_, ap', r.ln⟩
      obtain ⟨v, q1, q2⟩ := r.sl j x e
      refine ⟨v, q1, ?_⟩
      rw [hds]
      by_cases hj : j = i
      · subst hj; exact absurd e (he x)
      · rw [if_neg hj]; exact q2
    | some x =>
      have he : env[i]? = some (some x) := by
        cases q : env[i]? with
        | none => rw [q] at he; cases he
        | some y => rw [q] at he; rw [show y = some x from he]
      obtain ⟨v, q1, q2⟩ := r.sl i x he
      rw [h1] at q2
      obtain ⟨p, vs, xs, e1, e2, e3, e4, e5⟩ := q2
      obtain ⟨w2, sf⟩ := r.wd.freeze e4 e3
      refine ⟨_, _, sf, w2, fun j y e => ?_, ap', r.ln⟩
      obtain ⟨u, k1, k2⟩ := r.sl j y e
      refine ⟨u, k1, ?_⟩
      rw [hds]
      by_cases hj : j = i
      · subst hj
        rw [if_pos rfl]
        rw [he] at e; cases e
        rw [q1] at k1; cases k1
        rw [e1]
        exact ⟨p, vs, e2, upd_same, e5.mono sf⟩
      · rw [if_neg hj]
        have notp : ∀ {q : Addr} {l : Addr × Option Nat}, ω q = some l → q ≠ p → (fun q => if q = p then none else ω q) q = some l := fun {q l} a b => by
          show (if q = p then none else ω q) = some l
          rw [if_neg b]; exact a
        match hd2 : ds.getD j 0, k2 with
        | 0, k2 => exact Rep.mono sf k2
        | 1, ⟨q, us, ys, f1, f2, f3, f4, f5⟩ =>
          refine ⟨q, us, ys, f1, f2, f3, notp f4 fun z => ?_, f5.mono sf⟩
          subst z
          exact r.ap i j x y v (Ne.symm hj) (by omega) (by omega) he e q1 (by rw [k1, f2, e2])
        | 2, ⟨q, us, ys, f1, f2, f3, f4, f5, f6⟩ =>
          refine ⟨q, us, ys, f1, f2, f3, notp f4 fun z => ?_, f5, fun k y' u' a b => ?_⟩
          · subst z
            exact r.ap i j x y v (Ne.symm hj) (by omega) (by omega) he e q1 (by rw [k1, f2, e2])
          · obtain ⟨q', ws, zs, g1, g2, g3, g4, g5⟩ := f6 k y' u' a b
            exact ⟨q', ws, zs, g1, g2, g3, notp g4 (fun z => by subst z; rw [e4] at g4; cases g4), g5.mono sf⟩
        | 3, .inl k2 => exact .inl (Rep.mono sf k2)
        | 3, .inr ⟨a, us, ys, f1, f2, f3, f5⟩ => exact .inr ⟨a, us, ys, f1, f2, f3, f5.mono sf⟩
        | _ + 4, k2 => exact k2.elim
theorem qb_frz {f : Env → Rs Out} (i : Nat) (h : QB P (ds.set i 0) sts ds' f) (hd : ds.getD i 0 ≤ 1 := by decide) : QB P ds sts ds' f :=
  PSs.imp h fun D σ H ⟨F, ω, env, r, q⟩ => by
    obtain ⟨F', ω', sf, r'⟩ := r.freeze i hd
    exact liftS.to r' sf q

/-! ### small statements -/
theorem lift.ofS {f : Env → Rs PV} {F : Hp} {ω : Om} {env : Env} {σ : St} {H : Hp} {Q : VK} {g : PV → Rs Out} {R : Out → Prop} (r : Rel P.X.K P.G ds F ω env σ H) (h : ((f env).bind g).wp (ExcS P) R) (k : ∀ x, (g x).wp (ExcS P) R → Val P d F ω H x Q) : lift P ds d f σ H Q :=
  lift.to r (Rs.wp_bind.mp h) (fun c z => z.w r.wd.h0) k
@[simp] def sSet (i : Nat) (f : Env → Rs PV) (env : Env) : Rs Out := (f env).bind fun x => .ok (.nx (env.set i (some x)))
theorem qs_set (i : Nat) {x : Str} {pos' : Pos} {f : Env → Rs PV} (he : QE P ds d e f) (hN : P.X.N.Nodup) (hl : i < ds.length := by decide) (hi : P.X.N[i]? = some x := by rfl) (hx : Loc P.X.env.scope x := by first | exact Or.inl rfl | exact Or.inr rfl)
    (hs : swapsWith e (some (.Name x pos')) pos.line P.X.env = pure false := by rfl) (hf : P.X.fn x = true ∨ P.X.env.scope.names.lookup x = some .local := by first | exact .inl rfl | exact .inr rfl) : QS P ds (.Assign [.Name x pos'] e pos) (ds.set i d) (sSet i f) :=
  PS.imp (ps_set hN hi hx he hs hf) fun D σ H ⟨F, ω, env, r, q⟩ => lift.ofS r q fun x hx F' ω' H' v l w s fr => by
    rcases r.set (i := i) l w s fr with r2 | n
    · exact hx F' ω' _ H' l.f r2
    · exact absurd hl n
theorem qs_setLc (i : Nat) {y : Str} {py : Pos} (hd : d ≤ 1) {tg iter elt : Expr} {ifs : List Expr} {scope : Scope} {own : List (Str × Nat)} {bb : Bool} {fi : Env → Rs (List PV)} {tgt : Tg} {tt : Env → Rs Bool} {fe : Env → Rs PV} {p2 : Pos} (hc : P.X.calm = true) (hN : P.X.N.Nodup) (hi : QI P ds bb tg iter fi)
    (ok : BlkOk P.X.N P.X.env.scope scope own) (hsub : ∀ j ∈ tgI tgt, j ∈ own.map (·.2)) (hg : ∀ (s : Shared) (H : Hp) (C : Addr) (cl : List (Str × Addr)) (fp : List Addr), QG (P.blk s H scope C cl fp) ds tg tgt) (ht : ∀ (s : Shared) (H : Hp) (C : Addr) (cl : List (Str × Addr)) (fp : List Addr), QTs (P.blk s H scope C cl fp) ds ifs tt)
    (he : ∀ (s : Shared) (H : Hp) (C : Addr) (cl : List (Str × Addr)) (fp : List Addr), QE (P.blk s H scope C cl fp) ds 0 elt fe)
    (hsw : swapsWith (.ListComp elt [⟨tg, iter, ifs, 0⟩] scope p2) (some (.Name y py)) pos.line P.X.env = pure true) (hl : i < ds.length := by decide) (hy : P.X.N[i]? = some y := by rfl) (hyl : P.X.env.scope.names.lookup y = some .local := by rfl) (hs : ∀ x, foldedSetIterable iter P.X.env x = pure x := by intro _; rfl) :
    QS P ds (.Assign [.Name y py] (.ListComp elt [⟨tg, iter, ifs, 0⟩] scope p2) pos) (ds.set i d) (sSet i (eLc (own.map (·.2)) fi tgt tt fe)) :=
  PS.imp (ps_setLc (g := liftG P ds (tgS tgt) (tgI tgt)) (tt := liftT { P with W := fun _ _ _ _ => False } ds tt) (te := lift { P with W := fun _ _ _ _ => False } ds 0 fe) hc hN hy hyl hsw hi ok hg ht he hs) fun D σ H ⟨F, ω, env, r, q⟩ =>
    lc_to hd hsub (lift.ofS r q fun x hx F' ω' H' v l w s fr => by
      rcases r.set (i := i) l w s fr with r2 | n
      · exact hx F' ω' _ H' l.f r2
      · exact absurd hl n)
@[simp] def sRet (f : Env → Rs PV) (env : Env) : Rs Out := (f env).bind fun x => .ok (.rt x)
theorem qs_ret {f : Env → Rs PV} (hd : P.dr = d) (he : QE P ds d e f) : QS P ds (.Return (some e) pos) ds' (sRet f) :=
  PS.imp (ps_ret he) fun D σ H ⟨F, ω, env, r, q⟩ => lift.ofS r q fun x hx F' ω' H' v l w s fr => by
    subst hd
    exact hx F' ω' H' v w s fun n p e => r.wd.h0.free (fr n p e)
/-- an owned list is handed back -/
theorem qe_mv (i : Nat) {x : Str} (hd : ds.getD i 0 = 1 := by rfl) (hN : P.X.N[i]? = some x := by rfl) (hv : Vis P.X.env.scope x := by first | exact Or.inl rfl | exact Or.inr (Or.inl rfl) | exact Or.inr (Or.inr rfl))
    (hdb : (x == ("__debug__" : Str)) = false := by decide) (hcd : (x == ("__classdict__" : Str)) = false := by decide) (hr : P.dr = 1) : QS P ds (.Return (some (.Name x pos)) pos) ds' (sRet (eV i)) :=
  PS.imp (ps_ret (pe_var hN hv hdb hcd)) fun D σ H ⟨F, ω, env, r, q⟩ => by
    unfold sRet eV at q
    split at q
    · rename_i x e
      obtain ⟨v, e1, s⟩ := r.sl i x e
      rw [hd] at s
      refine ⟨v, e1, q F ω H v r.wd (by rw [hr]; exact s) fun _ p e2 => ?_⟩
      obtain ⟨p', vs, xs, k1, k2, k3, k4, k5⟩ := s
      rw [k2] at e2; cases e2
      exact (r.wd.om _ _ k4).2.1
    · exact q.elim
@[simp] def sRetN (_ : Env) : Rs Out := .ok (.rt .non)
theorem qs_retN (hd : P.dr = 0) : QS P ds (.Return none pos) ds' sRetN :=
  PS.imp ps_retN fun D σ H ⟨F, ω, env, r, q⟩ => q F ω H .non r.wd (by rw [hd]; exact rfl) (by omega)
@[simp] def sExp (f : Env → Rs PV) (env : Env) : Rs Out := (f env).bind fun _ => .ok (.nx env)
theorem qs_exp {f : Env → Rs PV} (he : QE P ds d e f) (hs : swapsWith e none pos.line P.X.env = pure false := by rfl) : QS P ds (.Expr e pos) ds (sExp f) :=
  PS.imp (ps_expr he hs) fun D σ H ⟨F, ω, env, r, q⟩ => lift.ofS r q fun x hx F' ω' H' v l w s fr => hx F' ω' σ H' l.f (r.mono l w)
theorem qs_pass : QS P ds (.Pass pos) ds sNil := PS.imp ps_pass fun D σ H ⟨F, ω, env, r, q⟩ => q F ω σ H (.refl F) r
theorem liftT.ofS {f : Env → Rs Bool} {F : Hp} {ω : Om} {env : Env} {σ : St} {H : Hp} {Q : Bool → Hp → Prop} {g : Bool → Rs Out} {R : Out → Prop} (r : Rel P.X.K P.G ds F ω env σ H) (h : ((f env).bind g).wp (ExcS P) R) (k : ∀ x, (g x).wp (ExcS P) R → ∀ F' ω' H', Le F ω H F' ω' H' → Wd P.G F' ω' H' → Q x H') : liftT P ds f σ H Q :=
  liftT.to r (Rs.wp_bind.mp h) (fun c z => z.w r.wd.h0) k
@[simp] def sIf (t : Env → Rs Bool) (f g : Env → Rs Out) (env : Env) : Rs Out := (t env).bind fun k => if k = true then f env else g env
theorem qs_if {c : Expr} {a b : List Stmt} {t : Env → Rs Bool} {f g : Env → Rs Out} (hc : QT P ds c t) (ha : QB P ds a ds' f) (hb : QB P ds b ds' g) : QS P ds (.If c a b pos) ds' (sIf t f g) :=
  PS.imp (ps_if hc ha hb) fun D σ H ⟨F, ω, env, r, q⟩ => liftT.ofS r q fun k hk F' ω' H' l w => by
    cases k with
    | true => rw [if_pos rfl] at hk ⊢; exact liftS.to (r.mono l w) l.f hk
    | false => rw [if_neg Bool.false_ne_true] at hk ⊢; exact liftS.to (r.mono l w) l.f hk
/-- a, b = e -/
@[simp] def sTgt (tg : Tg) (f : Env → Rs PV) (env : Env) : Rs Out := (f env).bind fun x => (tgS tg x env).noexc.bind fun e => .ok (.nx e)
theorem qs_tgt {tg : Expr} {tgt : Tg} {f : Env → Rs PV} (he : QE P ds 0 e f) (hg : QG P ds tg tgt) (hs : swapsWithSole [tg] e pos.line P.X.env = pure false := by rfl) (hw : swappedStores [tg] e P.X.env = pure none := by rfl)
    (h1 : (assignEach [tg] P.X.env).map (·.2) = [assign tg P.X.env] := by rfl) : QS P ds (.Assign [tg] e pos) ds (sTgt tgt f) :=
  PS.imp (ps_asg he hg hs hw h1) fun D σ H ⟨F, ω, env, r, q⟩ => lift.ofS r q fun x hx F' ω' H' v l w s fr =>
    ⟨F', ω', env, x, r.mono l w, s, Rs.wp_mono (noexc_wp (Rs.wp_bind.mp hx)) (fun _ z => z) fun env' h σ' r' _ _ => h F' ω' σ' H' l.f r'⟩
/-- a, b = x, y -/
@[simp] def sPar (i j : Nat) (f g : Env → Rs PV) (env : Env) : Rs Out := (f env).bind fun x => (g env).bind fun y => .ok (.nx ((env.set i (some x)).set j (some y)))
theorem qs_par (i j : Nat) {x y : Str} {a b : Expr} {f g : Env → Rs PV} {px py pt : Pos} {kt k2 pt2} (hc : P.X.calm = true) (hN : P.X.N.Nodup) (ha : QE P ds 0 a f) (hb : QE P ds 0 b g) (hdi : ds.getD i 0 = 0 := by rfl) (hdj : ds.getD j 0 = 0 := by rfl) (hi : P.X.N[i]? = some x := by rfl) (hj : P.X.N[j]? = some y := by rfl) (hij : i ≠ j := by decide)
    (hx : P.X.env.scope.names.lookup x = some .local := by rfl) (hy : P.X.env.scope.names.lookup y = some .local := by rfl)
    (hw : swappedStores [.Tuple [.Name x px, .Name y py] kt pt] (.Tuple [a, b] k2 pt2) P.X.env = pure (some [x, y]) := by rfl)
    (hs : swapsWithSole [.Tuple [.Name x px, .Name y py] kt pt] (.Tuple [a, b] k2 pt2) pos.line P.X.env = pure false := by rfl)
    (s1 : starEach [a, b] P.X.env = (false, eval a P.X.env) :: starEach [b] P.X.env := by rfl) (s2 : starEach [b] P.X.env = (false, eval b P.X.env) :: starEach [] P.X.env := by rfl) :
    QS P ds (.Assign [.Tuple [.Name x px, .Name y py] kt pt] (.Tuple [a, b] k2 pt2) pos) ds (sPar i j f g) :=
  PS.imp (ps_par hc hN hi hj hij hx hy (pa_cons ha (pa_cons hb pa_nil s2) s1) hw hs) fun D σ H ⟨F, ω, env, r, q⟩ => lift.ofS r q fun u hu F1 ω1 H1 v1 l1 w1 t1 _ => by
    refine lift.ofS (r.mono l1 w1) hu fun z hz F2 ω2 H2 v2 l2 w2 t2 _ => ⟨v1, v2, rfl, ?_⟩
    have r2 := (r.mono l1 w1).mono l2 w2
    have t1 : Rep P.X.K F1 u v1 := t1
    have r3 := r2.set0 hdi (t1.mono l2.f)
    exact hz F2 ω2 _ H2 (l1.f.trans l2.f) (r3.set0 hdj t2)
/-- x op= e -/
@[simp] def sAug (i : Nat) (o : PV → PV → Rs PV) (f : Env → Rs PV) (env : Env) : Rs Out := (eV i env).bind fun x => (f env).bind fun y => (o x y).noexc.bind fun z => .ok (.nx (env.set i (some z)))
theorem qs_aug (i : Nat) {x : Str} {op : Operator} {o : PV → PV → Rs PV} {pos' : Pos} {f : Env → Rs PV} (ho : Op2 P (inplaceOp op) 0 o) (he : QE P ds 3 e f) (hN : P.X.N.Nodup) (hd : ds.getD i 0 = 0 := by rfl) (hi : P.X.N[i]? = some x := by rfl) (hx : Loc P.X.env.scope x := by first | exact Or.inl rfl | exact Or.inr rfl)
    (hf : P.X.fn x = true ∨ P.X.env.scope.names.lookup x = some .local := by first | exact .inl rfl | exact .inr rfl) : QS P ds (.AugAssign (.Name x pos') op e pos) ds (sAug i o f) :=
  PS.imp (ps_aug hN hi hx he ho hf) fun D σ H ⟨F, ω, env, r, q⟩ => by
    unfold sAug eV at q
    split at q
    · rename_i x e
      obtain ⟨v, e1, s⟩ := r.sl i x e
      rw [hd] at s
      have s : Rep P.X.K F x v := s
      refine ⟨v, e1, lift.ofS r q fun y hy F1 ω1 H1 u l1 w1 s1 _ => ⟨F1, ω1, x, y, w1, .inl (s.mono l1.f), s1, Rs.wp_mono (noexc_wp (Rs.wp_bind.mp hy)) (fun _ z => z) fun z hz F2 ω2 H2 v2 l2 w2 s2 _ => ?_⟩⟩
      exact hz F2 ω2 _ H2 (l1.f.trans l2.f) (((r.mono l1 w1).mono l2 w2).set0 hd s2)
    · exact q.elim

/-! ### an owned list is changed -/
theorem getD_le : ∀ {ds : List Nat} (h : ds.all (fun d => decide (d ≤ 2)) = true) (j : Nat), ds.getD j 0 ≤ 2
  | [], _, j => by simp
  | d :: ds, h, 0 => by
    rw [List.all_cons, Bool.and_eq_true] at h
    exact of_decide_eq_true h.1
  | d :: ds, h, j + 1 => by
    rw [List.all_cons, Bool.and_eq_true] at h
    exact getD_le h.2 j
theorem Rel.mut {K : PySem.W.Frag} {G : Gh} {F : Hp} {ω : Om} {env : Env} {σ : St} {H : Hp} (r : Rel K G ds F ω env σ H) {i : Nat} {xs' : List PV} {vs' : List V} {p : Addr} {x : PV} (hd : ds.getD i 0 = 1) (he : env[i]? = some (some x)) (hs : σ[i]? = some (some (.ref p))) (ho : ω p = some (p, none)) (rr : RepL K F xs' vs') (h3 : ds.all (fun d => decide (d ≤ 2)) = true) :
    Rel K G ds F ω (env.set i (some (.lst xs'))) σ (upd H p (.lst vs')) := by
  have hl : i < env.length := (List.getElem?_eq_some_iff.mp he).1
  have inv : ∀ {j : Nat} {y : PV}, (env.set i (some (.lst xs')))[j]? = some (some y) → (j = i ∧ y = .lst xs') ∨ (j ≠ i ∧ env[j]? = some (some y)) := fun {j y} e => by
    by_cases hj : j = i
    · rw [hj, List.getElem?_set_self hl] at e; cases e; exact .inl ⟨hj, rfl⟩
    · rw [List.getElem?_set_ne (Ne.symm hj)] at e; exact .inr ⟨hj, e⟩
  refine ⟨r.wd.mut ho, fun j y e => ?_, fun j m y z u hjm hd1 hd2 e1 e2 e3 => ?_, by rw [List.length_set]; exact r.ln⟩
  · rcases inv e with ⟨hj, hy⟩ | ⟨hj, e⟩
    · rw [hj, hy]
      refine ⟨.ref p, hs, ?_⟩
      rw [hd]
      exact ⟨p, vs', xs', rfl, rfl, upd_same, ho, rr⟩
    · obtain ⟨u, k1, k2⟩ := r.sl j y e
      refine ⟨u, k1, ?_⟩
      match hd2 : ds.getD j 0, k2 with
      | 0, k2 => exact k2
      | 1, ⟨q, us, ys, f1, f2, f3, f4, f5⟩ =>
        have hq : q ≠ p := fun z => r.ap i j x y (.ref p) (Ne.symm hj) (by omega) (by omega) he e hs (by rw [k1, f2, z])
        exact ⟨q, us, ys, f1, f2, by rw [upd_ne hq]; exact f3, f4, f5⟩
      | 2, ⟨q, us, ys, f1, f2, f3, f4, f5, f6⟩ =>
        have hq : q ≠ p := fun z => r.ap i j x y (.ref p) (Ne.symm hj) (by omega) (by omega) he e hs (by rw [k1, f2, z])
        refine ⟨q, us, ys, f1, f2, by rw [upd_ne hq]; exact f3, f4, f5, fun k y' u' a b => ?_⟩
        obtain ⟨q', ws, zs, g1, g2, g3, g4, g5⟩ := f6 k y' u' a b
        exact ⟨q', ws, zs, g1, g2, by rw [upd_ne (fun z => by rw [z, ho] at g4; cases g4)]; exact g3, g4, g5⟩
      | n + 3, _ => exact absurd (getD_le h3 j) (by omega)
  · rcases inv e1 with ⟨hj, _⟩ | ⟨hj, e1'⟩
    · rcases inv e2 with ⟨hm, _⟩ | ⟨hm, e2'⟩
      · exact absurd (hj.trans hm.symm) hjm
      · rw [hj] at e3 hd1 hjm; exact r.ap i m x z u hjm hd1 hd2 he e2' e3
    · rcases inv e2 with ⟨hm, _⟩ | ⟨hm, e2'⟩
      · rw [hm] at hd2 hjm ⊢; exact r.ap j i y x u hjm hd1 hd2 e1' he e3
      · exact r.ap j m y z u hjm hd1 hd2 e1' e2' e3
/-- the list of an owned slot -/
@[simp] def ownL (i : Nat) (env : Env) : Rs (List PV) := match env[i]? with
  | some (some (.lst xs)) => .ok xs
  | _ => .stuck
theorem ownL_inv {i : Nat} {env : Env} {E : Str → Prop} {Q : List PV → Prop} (h : (ownL i env).wp E Q) : ∃ xs, env[i]? = some (some (.lst xs)) ∧ Q xs := by
  unfold ownL at h
  split at h
  · rename_i xs e; exact ⟨xs, e, h⟩
  · exact h.elim
theorem Rel.own {K : PySem.W.Frag} {G : Gh} {F : Hp} {ω : Om} {env : Env} {σ : St} {H : Hp} (r : Rel K G ds F ω env σ H) {i : Nat} {xs : List PV} (hd : ds.getD i 0 = 1) (he : env[i]? = some (some (.lst xs))) : ∃ p vs, σ[i]? = some (some (.ref p)) ∧ H p = some (.lst vs) ∧ ω p = some (p, none) ∧ RepL K F xs vs := by
  obtain ⟨v, k1, k2⟩ := r.sl i _ he
  rw [hd] at k2
  obtain ⟨p, vs, ys, f1, f2, f3, f4, f5⟩ := k2
  cases f1
  exact ⟨p, vs, by rw [k1, f2], f3, f4, f5⟩
/-- x.append(e) -/
@[simp] def sApp (i : Nat) (f : Env → Rs PV) (env : Env) : Rs Out := (ownL i env).bind fun xs => (f env).bind fun x => if xs.length < lim then .ok (.nx (env.set i (some (.lst (xs ++ [x]))))) else .stuck
theorem ownL_nexc {i : Nat} {env : Env} {c : Str} : ownL i env ≠ .exc c := fun h => by
  unfold ownL at h
  split at h <;> cases h
theorem ownL_ok {i : Nat} {env : Env} {xs : List PV} (h : ownL i env = .ok xs) : env[i]? = some (some (.lst xs)) := by
  unfold ownL at h
  split at h
  · rename_i ys e; cases h; exact e
  · cases h
theorem qs_app (i : Nat) {x : Str} {p1 ap cp : Pos} {f : Env → Rs PV} (he : QE P ds 0 e f) (hd : ds.getD i 0 = 1 := by rfl) (h3 : ds.all (fun d => decide (d ≤ 2)) = true := by rfl) (hN : P.X.N[i]? = some x := by rfl) (hv : Vis P.X.env.scope x := by first | exact Or.inl rfl | exact Or.inr (Or.inl rfl) | exact Or.inr (Or.inr rfl))
    (hdb : (x == ("__debug__" : Str)) = false := by decide) (hcd : (x == ("__classdict__" : Str)) = false := by decide)
    (hsw : swapsWith (.Call (.Attribute (.Name x p1) "append" ap) [e] [] cp) none pos.line P.X.env = pure false := by rfl)
    (hbase : attributeBase (.Name x p1) "append" P.X.env (eval (.Name x p1) P.X.env) = eval (.Name x p1) P.X.env := by rfl)
    (hfew : ((backTo cp (starEach [e] P.X.env)).all (fun x => !x.1) && (backToKw cp (keywordEach [] P.X.env)).all (fun x => x.1.isSome)
      && decide ([e].length + ([] : List Keyword).length + (if ([] : List Keyword).isEmpty then 0 else 1) < 30)) = true := by rfl)
    (hline : (ap.endLine == cp.line) = true := by rfl) (hs : starEach [e] P.X.env = (false, eval e P.X.env) :: starEach [] P.X.env := by rfl) (hplain : (backTo cp (starEach [] P.X.env)).any (·.1) = false := by rfl) :
    QS P ds (.Expr (.Call (.Attribute (.Name x p1) "append" ap) [e] [] cp) pos) ds (sApp i f) :=
  PS.imp (ps_expr (pe_bm PySem.F.plainAttrs_list PySem.F.slot_list_append PySem.F.type_list_append mt_append (pe_var hN hv hdb hcd) (pa_cons he pa_nil hs) hbase hfew hline hs hplain) hsw) fun D σ H ⟨F, ω, env, r, q⟩ => by
    obtain ⟨xs, he, q⟩ := ownL_inv (Rs.wp_bind.mp q)
    obtain ⟨p, vs, k1, k2, k3, k4⟩ := r.own hd he
    refine ⟨.ref p, k1, .inl ⟨rfl, vs, SqL.of k2⟩, lift.ofS r q fun y hy F1 ω1 H1 u l1 w1 s1 _ => ?_⟩
    obtain ⟨hz, hy⟩ := ite_ok hy
    have s1 : Rep P.X.K F1 y u := s1
    refine ⟨p, vs, u, rfl, rfl, l1.h _ _ k2, by rw [lim_eq, k4.length]; exact hz, ?_⟩
    exact hy F1 ω1 σ _ l1.f ((r.mono l1 w1).mut hd he k1 (l1.o _ _ k3) ((k4.mono l1.f).append (RepL.cons s1 rfl)) h3)
/-- x[k] = e -/
@[simp] def ixP (n : Nat) : PV → Rs Nat
  | .int k => .opt (ixN n k)
  | _ => .stuck
@[simp] def sPut (i : Nat) (fk fv : Env → Rs PV) (env : Env) : Rs Out := (fv env).bind fun v => (ownL i env).bind fun xs => (fk env).bind fun k => (ixP xs.length k).bind fun j => .ok (.nx (env.set i (some (.lst (xs.set j v)))))
theorem ixP_inv {n : Nat} {x : PV} {E : Str → Prop} {Q : Nat → Prop} (h : (ixP n x).wp E Q) : ∃ k j, x = .int k ∧ ixN n k = some j ∧ Q j := by
  cases x with
  | int k =>
    obtain ⟨j, e, h⟩ := Rs.opt_wp h
    exact ⟨k, j, rfl, e, h⟩
  | _ => exact h.elim
theorem qs_put (i : Nat) {x : Str} {p1 tp : Pos} {ek : Expr} {fk fv : Env → Rs PV} (hv : QE P ds 0 e fv) (hk : QE P ds 0 ek fk) (hd : ds.getD i 0 = 1 := by rfl) (h3 : ds.all (fun d => decide (d ≤ 2)) = true := by rfl) (hN : P.X.N[i]? = some x := by rfl) (hvs : Vis P.X.env.scope x := by first | exact Or.inl rfl | exact Or.inr (Or.inl rfl) | exact Or.inr (Or.inr rfl))
    (hdb : (x == ("__debug__" : Str)) = false := by decide) (hcd : (x == ("__classdict__" : Str)) = false := by decide)
    (ha : ∀ v, assign (.Subscript (.Name x p1) ek tp) P.X.env v = (do
      let ov ← holding [v] (eval (.Name x p1) P.X.env)
      let iv ← holding [v, ov] (eval ek P.X.env)
      standAt tp
      holding [v, ov, iv] (setItem ov iv v)
      release [v, ov, iv] []) := by intro _; rfl)
    (hs : swapsWithSole [.Subscript (.Name x p1) ek tp] e pos.line P.X.env = pure false := by rfl) (hw : swappedStores [.Subscript (.Name x p1) ek tp] e P.X.env = pure none := by rfl)
    (h1 : (assignEach [.Subscript (.Name x p1) ek tp] P.X.env).map (·.2) = [assign (.Subscript (.Name x p1) ek tp) P.X.env] := by rfl) :
    QS P ds (.Assign [.Subscript (.Name x p1) ek tp] e pos) ds (sPut i fk fv) :=
  PS.imp (ps_asg hv (pg_sub (pe_var hN hvs hdb hcd) hk set_list ha) hs hw h1) fun D σ H ⟨F, ω, env, r, q⟩ => lift.ofS r q fun y hy F1 ω1 H1 u l1 w1 s1 _ => by
    obtain ⟨xs, he, hy⟩ := ownL_inv (Rs.wp_bind.mp hy)
    have r1 := r.mono l1 w1
    obtain ⟨p, vs, k1, k2, k3, k4⟩ := r1.own hd he
    refine ⟨.ref p, k1, lift.ofS r1 hy fun z hz F2 ω2 H2 u2 l2 w2 s2 _ => ?_⟩
    obtain ⟨k, j, e1, e2, hq⟩ := ixP_inv (Rs.wp_bind.mp hz)
    subst e1
    have s1 : Rep P.X.K F1 y u := s1
    refine ⟨p, vs, k, j, rfl, s2, l2.h _ _ k2, by rw [k4.length]; exact e2, ?_⟩
    exact hq F2 ω2 σ _ (l1.f.trans l2.f) ((r1.mono l2 w2).mut hd he k1 (l2.o _ _ k3) ((k4.mono l2.f).set j (s1.mono l2.f)) h3)
/-- x[k] op= e -/
@[simp] def sPutA (i : Nat) (o : PV → PV → Rs PV) (fk fv : Env → Rs PV) (env : Env) : Rs Out := (ownL i env).bind fun xs => (fk env).bind fun k => (ixP xs.length k).bind fun j => (Rs.opt xs[j]?).bind fun old => (fv env).bind fun y => (o old y).noexc.bind fun z => .ok (.nx (env.set i (some (.lst (xs.set j z)))))
theorem get_list {X : Cx} : PGet X (rIxL X.K) := fun pins s σ H x y v u Q I rx ry h => by
  obtain ⟨p, xs, i, z, rfl, rfl, hq, he, q⟩ := h
  cases rx
  obtain ⟨t, rfl⟩ := ry
  obtain ⟨its, r, pl, hz⟩ := I.list hq
  obtain ⟨j, h1, h2, h3, h4, h5⟩ := atI_get he
  obtain ⟨w, ew, rw'⟩ := r.get h2
  have hl := r.length
  have hn := line63
  have fin : EP X pins σ Q w s := ⟨z, H, I, rw', q⟩
  by_cases h0 : 0 ≤ i
  · have hj : i.toNat = j := by
      rw [seqIndex_of h0 h5] at h1
      exact Option.some.inj h1
    exact wpAny_getItem_list pl.isList h0 (by omega) (by rw [hj]; simpa using ew) fin
  · have hj : (i + (its.toArray.size : Int)).toNat = j := by
      rw [seqIndex_neg (by omega) h4] at h1
      rw [List.size_toArray, ← hl]
      exact Option.some.inj h1
    exact wpAny_getItem_list_neg pl.isList (by omega) (by rw [List.size_toArray] <;> omega) (by omega) (by rw [hj]; simpa using ew) fin
theorem qs_putA (i : Nat) {x : Str} {p1 tp : Pos} {ek : Expr} {op : Operator} {o : PV → PV → Rs PV} {fk fv : Env → Rs PV} (ho : Op2 P (inplaceOp op) 0 o) (hk : QE P ds 0 ek fk) (hv : QE P ds 3 e fv) (hd : ds.getD i 0 = 1 := by rfl) (h3 : ds.all (fun d => decide (d ≤ 2)) = true := by rfl) (hN : P.X.N[i]? = some x := by rfl) (hvs : Vis P.X.env.scope x := by first | exact Or.inl rfl | exact Or.inr (Or.inl rfl) | exact Or.inr (Or.inr rfl))
    (hdb : (x == ("__debug__" : Str)) = false := by decide) (hcd : (x == ("__classdict__" : Str)) = false := by decide)
    (ha : ∀ ov iv new, augStore ek ov iv new = (do holding [new, ov, iv] (setItem ov iv new); release [new, ov, iv] []; pure .next) := by intros; rfl) :
    QS P ds (.AugAssign (.Subscript (.Name x p1) ek tp) op e pos) ds (sPutA i o fk fv) :=
  PS.imp (ps_augS (pe_var hN hvs hdb hcd) hk get_list hv ho set_list ha) fun D σ H ⟨F, ω, env, r, q⟩ => by
    obtain ⟨xs, he, q⟩ := ownL_inv (Rs.wp_bind.mp q)
    obtain ⟨p, vs, k1, k2, k3, k4⟩ := r.own hd he
    refine ⟨.ref p, k1, lift.ofS r q fun z hz F2 ω2 H2 u2 l2 w2 s2 _ => ?_⟩
    obtain ⟨k, j, e1, e2, hq⟩ := ixP_inv (Rs.wp_bind.mp hz)
    subst e1
    obtain ⟨old, e3, hq⟩ := Rs.opt_wp (Rs.wp_bind.mp hq)
    obtain ⟨vo, m1, m2⟩ := k4.get e3
    have e4 : ixN vs.length k = some j := by rw [k4.length]; exact e2
    refine ⟨p, vs, k, vo, rfl, s2, SqL.of (l2.h _ _ k2), by unfold atI; rw [e4]; exact m1, ?_⟩
    have r2 := r.mono l2 w2
    refine lift.ofS r2 hq fun y hy F4 ω4 H4 u4 l4 w4 s4 _ => ?_
    refine ⟨F4, ω4, old, y, w4, .inl ((m2.mono l2.f).mono l4.f), s4, Rs.wp_mono (noexc_wp (Rs.wp_bind.mp hy)) (fun _ z => z) fun z hz F5 ω5 H5 u5 l5 w5 s5 _ => ?_⟩
    have l6 := (l2.trans l4).trans l5
    have s5 : Rep P.X.K F5 z u5 := s5
    refine ⟨p, vs, k, j, rfl, s2, l6.h _ _ k2, e4, ?_⟩
    exact hz F5 ω5 σ _ l6.f (((r2.mono l4 w4).mono l5 w5).mut hd he k1 (l6.o _ _ k3) ((k4.mono l6.f).set j s5) h3)

/-! ### loops -/
def forL (tg : Tg) (fb : Env → Rs Out) : Env → List PV → Rs Out
  | env, [] => .ok (.nx env)
  | env, x :: xs => (tgS tg x env).noexc.bind fun e => (fb e).bind fun o => match o with
    | .nx e' => forL tg fb e' xs
    | .rt y => .ok (.rt y)
@[simp] def sFor (fi : Env → Rs (List PV)) (tg : Tg) (fb : Env → Rs Out) (env : Env) : Rs Out := (fi env).bind fun xs => forL tg fb env xs
theorem qs_for {tg iter : Expr} {body : List Stmt} {fi : Env → Rs (List PV)} {tgt : Tg} {fb : Env → Rs Out} (hp : PassesOwn (model P.X.prog P.X.w) P.X.A P.X.env P.X.xe) (hc : P.X.calm = true) (hi : QI P ds true tg iter fi) (hg : QG P ds tg tgt) (hb : QB P ds body ds fb)
    (hs : ∀ x, foldedSetIterable iter P.X.env x = pure x := by intro _; rfl) : QS P ds (.For tg iter body [] pos) ds (sFor fi tgt fb) :=
  PS.imp (ps_for hp hc hi hg hb hs) fun D σ H ⟨F, ω, env, r, q⟩ => by
    refine ⟨F, ω, env, r, Rs.wp_mono (Rs.wp_bind.mp q) (fun c z => z.w r.wd.h0) fun xs hx F1 ω1 H1 J l1 w1 it => ?_⟩
    obtain ⟨Gd, Y, W, hG, hY⟩ := it
    rw [if_pos rfl] at hG hY
    refine for_it W (fun i σ H => ∃ F' ω' env', Same F1 F' ∧ Rel P.X.K P.G ds F' ω' env' σ H ∧ (forL tgt fb env' (xs.drop i)).wp (ExcS P) (SOk P ds D F)) ?_ (fun i σ H _ ⟨F', ω', env', s, r', _⟩ => hG H (s.trans r'.wd.f)) ?_ ?_
    · exact ⟨F1, ω1, env, .refl _, r.mono l1 w1, by rw [List.drop_zero]; exact hx⟩
    · rintro i v σ2 H2 H3 hi' ⟨F', ω', env', s, r', hc'⟩ hy
      have ex : xs[i]? = some xs[i] := by simp [hi']
      obtain ⟨F2, w2, l2, rv⟩ := ItOk.yld r'.wd s (hY i H2 v H3 xs[i] ex (s.trans r'.wd.f) (s.trans r'.wd.f) hy)
      rw [List.drop_eq_getElem_cons hi'] at hc'
      have hc2 : ((tgS tgt xs[i] env').noexc.bind fun e => (fb e).bind fun o => match o with
        | .nx e' => forL tgt fb e' (xs.drop (i + 1))
        | .rt y => .ok (.rt y)).wp (ExcS P) (SOk P ds D F) := hc'
      refine ⟨F2, ω', env', xs[i], r'.mono l2 w2, rv, Rs.wp_mono (noexc_wp (Rs.wp_bind.mp hc2)) (fun _ z => z) fun env2 h2 σ3 r3 _ _ => ?_⟩
      refine ⟨F2, ω', env2, r3, Rs.wp_mono (Rs.wp_bind.mp h2) (fun _ z => z) fun o ho => ?_⟩
      cases o with
      | nx e => exact fun F4 ω4 σ4 H4 s4 r4 => ⟨F4, ω4, e, (s.trans l2.f).trans s4, r4, ho⟩
      | rt y => exact ho
    · rintro σ2 H2 ⟨F', ω', env', s, r', hc'⟩
      rw [List.drop_length] at hc'
      exact hc' F' ω' σ2 H2 (l1.f.trans s) r'
def whileN (c : Env → Rs Bool) (b : Env → Rs Out) : Nat → Env → Rs Out
  | 0, _ => .stuck
  | m + 1, env => (c env).bind fun k => if k = true then (b env).bind fun o => match o with
      | .nx e => whileN c b m e
      | .rt x => .ok (.rt x)
    else .ok (.nx env)
open Classical in
noncomputable def sWhile (c : Env → Rs Bool) (b : Env → Rs Out) : Env → Rs Out := fun env => if h : ∃ m, whileN c b m env ≠ .stuck then whileN c b h.choose env else .stuck
theorem whileN_succ {c : Env → Rs Bool} {b : Env → Rs Out} : ∀ {m : Nat} {env : Env}, whileN c b m env ≠ .stuck → whileN c b (m + 1) env = whileN c b m env
  | 0, env, h => absurd rfl h
  | m + 1, env, h => by
    have h : ((c env).bind fun k => if k = true then (b env).bind fun o => match o with
      | .nx e => whileN c b m e
      | .rt x => .ok (.rt x)
      else .ok (.nx env)) ≠ .stuck := h
    show ((c env).bind fun k => if k = true then (b env).bind fun o => match o with
      | .nx e => whileN c b (m + 1) e
      | .rt x => .ok (.rt x)
      else .ok (.nx env)) = ((c env).bind fun k => if k = true then (b env).bind fun o => match o with
      | .nx e => whileN c b m e
      | .rt x => .ok (.rt x)
      else .ok (.nx env))
    cases q : c env with
    | stuck => rfl
    | exc c => rfl
    | ok k =>
      rw [q] at h
      cases k with
      | false => rfl
      | true =>
        have h : ((b env).bind fun o => match o with
          | .nx e => whileN c b m e
          | .rt x => .ok (.rt x)) ≠ .stuck := h
        show ((b env).bind fun o => match o with
          | .nx e => whileN c b (m + 1) e
          | .rt x => .ok (.rt x)) = ((b env).bind fun o => match o with
          | .nx e => whileN c b m e
          | .rt x => .ok (.rt x))
        cases q2 : b env with
        | stuck => rfl
        | exc c => rfl
        | ok o =>
          rw [q2] at h
          cases o with
          | rt x => rfl
          | nx e => exact whileN_succ h
theorem whileN_le {c : Env → Rs Bool} {b : Env → Rs Out} {m : Nat} {env : Env} (h : whileN c b m env ≠ .stuck) : ∀ k, whileN c b (m + k) env = whileN c b m env
  | 0 => rfl
  | k + 1 => by
    have := whileN_le h k
    rw [← this] at h
    rw [← this]; exact whileN_succ h
theorem sWhile_eq {c : Env → Rs Bool} {b : Env → Rs Out} {m : Nat} {env : Env} (h : whileN c b m env ≠ .stuck) : sWhile c b env = whileN c b m env := by
  unfold sWhile
  have hx : ∃ m, whileN c b m env ≠ .stuck := ⟨m, h⟩
  rw [dif_pos hx]
  have h2 := hx.choose_spec
  have a := whileN_le h hx.choose
  have b' := whileN_le h2 m
  rw [Nat.add_comm] at a
  rw [← b']; exact a
theorem sWhile_run {c : Env → Rs Bool} {b : Env → Rs Out} {env : Env} {E : Str → Prop} {Q : Out → Prop} (h : (sWhile c b env).wp E Q) : ∃ m, (whileN c b m env).wp E Q := by
  unfold sWhile at h
  split at h
  · rename_i hx; exact ⟨_, h⟩
  · exact h.elim
theorem qs_while {c : Expr} {body : List Stmt} {t : Env → Rs Bool} {fb : Env → Rs Out} (hp : PassesOwn (model P.X.prog P.X.w) P.X.A P.X.env P.X.xe) (hc : QT P ds c t) (hb : QB P ds body ds fb) : QS P ds (.While c body [] pos) ds (sWhile t fb) :=
  PS.imp (ps_while hp hc hb) fun D σ H ⟨F, ω, env, r, q⟩ => by
    obtain ⟨m, q⟩ := sWhile_run q
    refine ⟨fun m σ H => ∃ F' ω' env', Same F F' ∧ Rel P.X.K P.G ds F' ω' env' σ H ∧ (whileN t fb m env').wp (ExcS P) (SOk P ds D F), ⟨m, F, ω, env, .refl _, r, q⟩, ?_⟩
    rintro m σ2 H2 ⟨F', ω', env', s, r', q'⟩
    cases m with
    | zero => exact q'.elim
    | succ m =>
      refine liftT.ofS r' q' fun k hk F1 ω1 H1 l1 w1 => ?_
      cases k with
      | true =>
        rw [if_pos rfl] at hk
        refine iteT ⟨fun σ H => ∃ F' ω' env', Same F F' ∧ Rel P.X.K P.G ds F' ω' env' σ H ∧ (whileN t fb m env').wp (ExcS P) (SOk P ds D F), fun σ' H' h => ⟨m, Nat.lt_succ_self m, h⟩, ?_⟩
        refine ⟨F1, ω1, env', r'.mono l1 w1, Rs.wp_mono (Rs.wp_bind.mp hk) (fun _ z => z) fun o ho => ?_⟩
        cases o with
        | nx e => exact fun F4 ω4 σ4 H4 s4 r4 => ⟨F4, ω4, e, (s.trans l1.f).trans s4, r4, ho⟩
        | rt x => exact ho
      | false =>
        rw [if_neg Bool.false_ne_true] at hk
        exact iteF (hk F1 ω1 σ2 H1 (s.trans l1.f) (r'.mono l1 w1))
end

/-! ### a def -/
@[simp] def startE (n : Nat) (pvs : List PV) : Env := pvs.map some ++ List.replicate (n - pvs.length) none
/-- the end of a def -/
def fin (dr : Nat) (r : Rs Out) : Rs PV := r.bind fun o => match o with
  | .rt x => .ok x
  | .nx _ => if dr = 0 then .ok .non else .stuck
@[simp] theorem fin_rt (dr : Nat) (x : PV) : fin dr (.ok (.rt x)) = .ok x := rfl
@[simp] theorem fin_nx (e : Env) : fin 0 (.ok (.nx e)) = .ok .non := rfl
@[simp] def runB (dr n : Nat) (fb : Env → Rs Out) (pvs : List PV) : Rs PV := fin dr (fb (startE n pvs))
abbrev pxOf (P : Program) (w : World) (K : PySem.W.Frag) (mg : Str → Option Value) (base : Heap) (N : List Str) (qual : Str) (scope : Scope) (f : Addr) (cd : Value) (A : Around) (outer : List PySem.Env) (s : Shared) (H F : Hp) (E : XK) (dr : Nat) : Px where
  X := cxOf (L2.CX P w) P w K mg base N qual scope f cd A outer s H E
  W := fun cls d _ H => E cls d H
  G := ⟨H, F⟩
  dr := dr
section
variable {P : Program} {w : World} {K : PySem.W.Frag} {mg : Str → Option Value} {base : Heap} {N ps : List Str} {qual x : Str} {scope : Scope} {f : Addr} {cd : Value} {A : Around} {outer : List PySem.Env} {s : Shared} {H F : Hp} {E : XK} {dr k : Nat}
theorem px_takes : Takes (pxOf P w K mg base N qual scope f cd A outer s H F E dr).X (pxOf P w K mg base N qual scope f cd A outer s H F E dr).W := takes_of rfl rfl rfl rfl
theorem px_passes : PassesOwn (model P w) (pxOf P w K mg base N qual scope f cd A outer s H F E dr).X.A (pxOf P w K mg base N qual scope f cd A outer s H F E dr).X.env (pxOf P w K mg base N qual scope f cd A outer s H F E dr).X.xe := passes_of rfl
theorem startE_get {n : Nat} {pvs : List PV} {i : Nat} {y : PV} (h : (startE n pvs)[i]? = some (some y)) : pvs[i]? = some y := by
  unfold startE at h
  by_cases hi : i < pvs.length
  · rw [List.getElem?_append_left (by simpa using hi), List.getElem?_map] at h
    cases e : pvs[i]? with
    | none => rw [e] at h; cases h
    | some a => rw [e] at h; cases h; rfl
  · rw [List.getElem?_append_right (by simpa using hi), List.getElem?_replicate] at h
    split at h <;> cases h
/-- THE RULE: a def by its body -/
theorem fnok_mk {st : Stmt} {fd : FuncData} {fb : Env → Rs Out} {ds ds' : List Nat} (Fu : L2.Fun K x qual st f fd) (S : FnScope N ps (defScope st)) (dr : Nat) (hds : ∀ j, ds.getD j 0 = 0)
    (hbody : ∀ (cd : Value) (A : Around) (outer : List PySem.Env) (s : Shared) (H F : Hp) (E : XK), Room k (A.deeper (PyProof.Rows.envOfC qual (defScope st) s.heap.objs.size f cd)) → QB (pxOf P w K mg base N qual (defScope st) f cd A outer s H F E dr) ds (defBody st) ds' fb) :
    FnOk P w K mg base (L2.CX P w) (k + 1) f fd ps (spD K mg ps.length dr (runB dr N.length fb)) := by
  refine Fun.okX Fu S (fun vs H Q E h => h.1) (fun cd A outer s H vs Q E hr h => ?_)
  obtain ⟨hl, F, pvs, sf, rp, q⟩ := h
  refine ⟨_, hbody cd A outer s H F E hr, F, fun _ => none, startE N.length pvs, ?_, ?_⟩
  · refine ⟨⟨.refl H, .refl F, sf, fun a xs o' e _ => ⟨_, e⟩, fun p l e => by cases e⟩, fun i y e => ?_, fun i j y z v _ h1 => ?_, ?_⟩
    · have e := startE_get e
      obtain ⟨v, h1, h2⟩ := rp.get e
      refine ⟨v, ?_, by rw [hds]; exact h2⟩
      unfold L2.start
      have hi := (List.getElem?_eq_some_iff.mp h1).1
      rw [List.getElem?_append_left (by simpa using hi), List.getElem?_map, h1]; rfl
    · rw [hds] at h1; omega
    · unfold startE L2.start
      rw [List.length_append, List.length_append, List.length_map, List.length_map, List.length_replicate, List.length_replicate, rp.length]
  · refine Rs.wp_mono (Rs.wp_bind.mp q) (fun c z C σ' H' m s => z C H' m s) fun o ho => ?_
    cases o with
    | nx e =>
      intro F1 ω1 σ1 H1 _ r1
      by_cases hd : dr = 0
      · subst hd
        exact ho F1 ω1 H1 .non r1.wd rfl (by omega)
      · have ho : (if dr = 0 then Rs.ok PV.non else .stuck).wp _ _ := ho
        rw [if_neg hd] at ho; exact ho.elim
    | rt x => exact fun F1 ω1 H1 v w1 s1 fr => ho F1 ω1 H1 v w1 s1 fr
theorem fn_mk {st : Stmt} {fd : FuncData} {fb : Env → Rs Out} {ds ds' : List Nat} (Fu : L2.Fun K x qual st f fd) (S : FnScope N ps (defScope st)) (b : Binds K fd ps []) (hm : mg x = some (.ref f)) (dr : Nat) (hds : ∀ j, ds.getD j 0 = 0)
    (hbody : ∀ (cd : Value) (A : Around) (outer : List PySem.Env) (s : Shared) (H F : Hp) (E : XK), Room k (A.deeper (PyProof.Rows.envOfC qual (defScope st) s.heap.objs.size f cd)) → QB (pxOf P w K mg base N qual (defScope st) f cd A outer s H F E dr) ds (defBody st) ds' fb) :
    Fn P w K mg base x (k + 1) ps dr (runB dr N.length fb) := ⟨f, fd, fnok_mk Fu S dr hds hbody, hm, Fu.kp, b⟩
/-- a constant of the module -/
structure Cn (K : PySem.W.Frag) (mg : Str → Option Value) (x : Str) (y : PV) : Prop where
  ex : ∃ v u, mg x = some u ∧ RelV v u ∧ ∀ F, Rep K F y v
theorem Cn.qe {P : Px} {x : Str} {y : PV} {ds : List Nat} {pos : Pos} (c : Cn P.X.K P.X.mg x y) (hg : Gl P.X x) (hdb : (x == ("__debug__" : Str)) = false := by decide) : QE P ds 0 (.Name x pos) (eC y) :=
  let ⟨_, _, h1, h2, h3⟩ := c.ex
  qe_glob hg h1 h2 h3 hdb
theorem Cn.int {i : Int} {t : Tok} (h : mg x = some (.int i t)) : Cn K mg x (.int i) := ⟨.int i, _, h, ⟨t, rfl⟩, fun _ => rfl⟩
theorem Cn.str {i : Str} {t : Tok} (h : mg x = some (.str i t)) : Cn K mg x (.str i) := ⟨.str i, _, h, ⟨t, rfl⟩, fun _ => rfl⟩
theorem Cn.tup {a : Addr} {xs : List PV} {vs : List V} {us : List Value} {dd : Option Addr} {n : Nat} {sl : Array (Option Value)} (h : mg x = some (.ref a)) (l : K.lookup a = some ⟨.type "tuple", dd, .seq us.toArray n, sl⟩) (hz : us.length ≤ 1000) (r : Vals vs us) (q : ∀ F, RepL K F xs vs) : Cn K mg x (.tup xs) :=
  ⟨.ref a, _, h, rfl, fun F => ⟨a, vs, rfl, .inr ⟨_, us.toArray, n, l, rfl, rfl, by rw [List.size_toArray, sizeLine_eq]; omega, r⟩, q F⟩⟩
end
/-- the end: the law's promise -/
theorem law_sp {K : PySem.W.Frag} {mg : Str → Option Value} {d : List PV → Rs PV} {n : Nat} (hd : ∀ ns : List Int, ns.length ≤ n → (∀ z ∈ ns, Builtin.Int.intBits z ≤ 1048576) → d [.ro ns] = .ok (.bl true)) {H : Hp} {a : Addr} {ns : List Int} (hl : ns.length ≤ n) (hb : ∀ z ∈ ns, Builtin.Int.intBits z ≤ 1048576) (hS : SqL K H a (ns.map V.int)) :
    spD K mg 1 0 d [.ref a] H (fun v _ => v = .bl true) fun _ _ _ => False :=
  ⟨rfl, H, [.ro ns], .refl H, RepL.cons ⟨a, rfl, hS⟩ rfl, by rw [hd ns hl hb]; exact fun F' ω' H' v _ s _ => s⟩
theorem zds (n : Nat) : ∀ j, (List.replicate n 0).getD j 0 = 0 := fun j => by
  rw [List.getD_eq_getElem?_getD, List.getElem?_replicate]
  split <;> rfl
theorem fn_stuck {P : Program} {w : World} {K : PySem.W.Frag} {mg : Str → Option Value} {base : Heap} {ps : List Str} {qual x : Str} {st : Stmt} {f : Addr} {fd : FuncData} {N : List Str} (Fu : L2.Fun K x qual st f fd) (S : FnScope N ps (defScope st)) (b : Binds K fd ps []) (hm : mg x = some (.ref f)) (k dr : Nat) : Fn P w K mg base x (k + 1) ps dr fun _ => .stuck :=
  ⟨f, fd, Fun.okX Fu S (fun vs H Q E h => h.1) (fun cd A outer s H vs Q E hr h => h.2.elim fun F h => h.elim fun pvs h => h.2.2.elim), hm, Fu.kp, b⟩
theorem walk_end {l : PySem.W.OpenLaw} {k : Nat} {q : Program} {loose : List Str} {XP : (Str → Option Value) → Heap → Prop} {YP : World → Heap → Prop} {d : DefRec} {K : Params → PySem.W.Frag} {dl : List PV → Rs PV} (hd : ∀ ns : List Int, ns.length ≤ 63 → (∀ z ∈ ns, Builtin.Int.intBits z ≤ 1048576) → dl [.ro ns] = .ok (.bl true)) (hn : l.most = some 63) (hdf : d.params.defaults = []) (hr : Room k callerA)
    (hY : ∀ (w : World) (h : Heap), YP w h → (K w.params).In h)
    (F : ∀ (w : World) (mg : Str → Option Value) (fa : Addr) (h : Heap), (K w.params).In h → h.Ns mainGlobals mg → mg d.name = some (.ref fa) →
      ∃ fd : FuncData, (∀ (s : Shared) (u : Value), BindsTo s fd ⟨[u], []⟩ [("script", u)]) ∧ ∀ base : Heap, (K w.params).In base → base.Ns mainGlobals mg → FnOk l.prog w (K w.params) mg base (L2.CX l.prog w) k fa fd ["script"] (spD (K w.params) mg 1 0 dl)) :
    PySem.W.WalkO q loose XP YP l.row.toRowW d [] (fun f vs => PySem.call f vs) := by
  refine Att.attach_callB hn hdf fun w s₀ s₁ mg mb fa o pm cd doc a vs ns G Y ho hd' hcd hmg hobj hints hlen hbits hg => ?_
  have KX := hY w _ Y
  obtain ⟨fd, hb, hF⟩ := F w mg fa _ KX G.T.g hmg
  exact law_call KX G.T.g G.T.b G.T.builtins G.T.nolimit hg hobj hints (Nat.le_trans hlen (by rw [sizeLine_eq]; omega)) hr hF hb (fun H hO hS => law_sp hd hlen hbits hS) fun H e s' h => by
    obtain ⟨_, _, _, _, _, _, _, _, _, _, _, _, z⟩ := h
    exact z
theorem b_len : bootBuiltins "len" = some (.builtin "len") := by decide +kernel
theorem b_abs : bootBuiltins "abs" = some (.builtin "abs") := by decide +kernel
theorem b_max : bootBuiltins "max" = some (.builtin "max") := by decide +kernel
theorem b_min : bootBuiltins "min" = some (.builtin "min") := by decide +kernel
theorem b_sum : bootBuiltins "sum" = some (.builtin "sum") := by decide +kernel
theorem b_any : bootBuiltins "any" = some (.builtin "any") := by decide +kernel
theorem b_all : bootBuiltins "all" = some (.builtin "all") := by decide +kernel
theorem b_sorted : bootBuiltins "sorted" = some (.builtin "sorted") := by decide +kernel
theorem b_int : bootBuiltins "int" = some (.type "int") := by decide +kernel
theorem b_bool : bootBuiltins "bool" = some (.type "bool") := by decide +kernel
theorem b_str : bootBuiltins "str" = some (.type "str") := by decide +kernel
theorem b_list : bootBuiltins "list" = some (.type "list") := by decide +kernel
theorem b_tuple : bootBuiltins "tuple" = some (.type "tuple") := by decide +kernel
end Pw

namespace Pw
open PySem L2
theorem ite_st {α : Type} {c : Prop} [Decidable c] {r : Rs α} {E : Str → Prop} {Q : α → Prop} (h : (if c then r else .stuck).wp E Q) : c ∧ r.wp E Q := by
  by_cases hc : c
  · rw [if_pos hc] at h; exact ⟨hc, h⟩
  · rw [if_neg hc] at h; exact h.elim
/-! ### methods of a list -/
def MtP (P : Px) (id : String) (d : Nat) (o : PV → List PV → Rs PV) : Prop :=
  MtR P.X id fun x vs H Q => ∃ F ω a xs, Wd P.G F ω H ∧ Rv P.X.K F H a x ∧ RvL P.X.K F H xs vs ∧ (o a xs).wp (fun _ => False) fun z => Val P d F ω H z Q
def isL : PV → Bool
  | .lst _ => true
  | .ro _ => true
  | _ => false
@[simp] theorem isL_lst (xs : List PV) : isL (.lst xs) = true := rfl
@[simp] theorem isL_ro (xs : List Int) : isL (.ro xs) = true := rfl
@[simp] def eMth (o : PV → List PV → Rs PV) (fo : Env → Rs PV) (fa : Env → Rs (List PV)) (env : Env) : Rs PV := (fo env).bind fun x => if isL x = true then (fa env).bind fun xs => (o x xs).noexc else .stuck
section
variable {P : Px} {ds : List Nat} {pos apos cpos : Pos} {o e : Expr} {es : List Expr} {name : Str} {id : String} {d : Nat} {m : PV → List PV → Rs PV} {fo : Env → Rs PV} {fa : Env → Rs (List PV)}
theorem tyV_list {K : PySem.W.Frag} {F H : Hp} {G : Gh} {ω : Om} {x : PV} {v : V} (w : Wd G F ω H) (h : Rv K F H x v) (l : isL x = true) : tyV K "list" v H := by
  rcases h with h | ⟨a, vs, xs, e1, e2, h, r⟩
  · cases x <;> first | cases l | skip
    case inl.lst.refl xs =>
      obtain ⟨a, vs, rfl, q, r⟩ := h
      exact .inl ⟨rfl, _, SqL.of (w.f _ _ q)⟩
    case inl.ro.refl ns =>
      obtain ⟨a, rfl, q⟩ := h
      exact .inl ⟨rfl, _, w.f.seq q⟩
  · subst e2
    exact .inl ⟨rfl, _, SqL.of h⟩
theorem qe_mth (slot : Slot "list" name id) (hty : typeOf (.builtin id) = pure (.type "method_descriptor")) (hm : MtP P id d m) (ho : QE P ds 3 o fo) (ha : QR P ds (e :: es) fa)
    (hbase : attributeBase o name P.X.env (eval o P.X.env) = eval o P.X.env := by rfl)
    (hfew : ((backTo cpos (starEach (e :: es) P.X.env)).all (fun x => !x.1) && (backToKw cpos (keywordEach [] P.X.env)).all (fun x => x.1.isSome)
      && decide ((e :: es).length + ([] : List Keyword).length + (if ([] : List Keyword).isEmpty then 0 else 1) < 30)) = true := by rfl)
    (hline : (apos.endLine == cpos.line) = true := by rfl) (hs : starEach (e :: es) P.X.env = (false, eval e P.X.env) :: starEach es P.X.env := by rfl) (hplain : (backTo cpos (starEach es P.X.env)).any (·.1) = false := by rfl) :
    QE P ds d (.Call (.Attribute o name apos) (e :: es) [] cpos) (eMth m fo fa) :=
  PE.imp (pe_bm PySem.F.plainAttrs_list slot hty hm ho ha.1 hbase hfew hline hs hplain) fun σ H Q ⟨F, ω, env, r, q⟩ => by
    refine lift.to r (Rs.wp_bind.mp q) (fun _ z => z) fun x hx F1 ω1 H1 v l1 w1 s1 _ => ?_
    obtain ⟨hl, hx⟩ := ite_st hx
    refine ⟨tyV_list w1 s1 hl, ?_⟩
    exact liftB.to (r.mono l1 w1) (Rs.wp_bind.mp hx) (fun c z => z.mono l1.h) fun xs hx F2 ω2 H2 vs l2 w2 s2 => ⟨F2, ω2, x, xs, w2, Rv.mono l2.f l2.h s1, s2, Rs.wp_mono (noexc_wp hx) (fun _ z => z) fun z hz => hz.mono (l1.trans l2)⟩
def oIndex : PV → List PV → Rs PV
  | .lst ys, [y] => if shp y = true ∧ shp (.lst ys) = true then (Rs.opt (ys.findIdx? fun z => peq z y)).bind fun j => .ok (.int (j : Nat)) else .stuck
  | _, _ => .stuck
@[simp] theorem oIndex_r1 (ys : List PV) (y : PV) : oIndex (.lst ys) [y] = if shp y = true ∧ shp (.lst ys) = true then (Rs.opt (ys.findIdx? fun z => peq z y)).bind fun j => .ok (.int (j : Nat)) else .stuck := rfl
theorem toDs_get : ∀ (ys : List PV) (j : Nat), (toDs ys)[j]? = (ys[j]?).map toD
  | [], j => by simp [toDs]
  | y :: ys, 0 => by simp [toDs]
  | y :: ys, j + 1 => by simp [toDs, toDs_get ys j]
theorem m_index (hu : P.X.A.units + 65 < cLine) : MtP P "list.index" 0 oIndex := by
  intro pins s σ H x vs v us Q I rx rxs ⟨F, ω, a, xs, w, ra, rb, h⟩
  unfold oIndex at h
  split at h
  case h_1 ys y =>
    obtain ⟨⟨h1, h2⟩, h⟩ := ite_st h
    obtain ⟨u, rfl, ry⟩ := rv1 rb
    obtain ⟨j, ej, h⟩ := Rs.opt_wp (Rs.wp_bind.mp h)
    obtain ⟨hj, hp, hn⟩ := List.findIdx?_eq_some_iff_getElem.mp ej
    obtain ⟨p, vs', e1, e2⟩ : ∃ p vs', x = V.ref p ∧ SqL P.X.K H p vs' := by
      obtain ⟨p, vs', e1, e2, _⟩ := ra.lst w
      exact ⟨p, vs', e1, SqL.of e2⟩
    subst e1
    refine mt_indexD hu pins s σ H _ _ v us Q I rx rxs ⟨p, u, toD y, toDs ys, j, toD ys[j], rfl, rfl, ?_, dp_rv w.f ry, h2, h1, ?_, hp, fun m z' hm hz => ?_, Val.of0 h w rfl⟩
    · have := dp_rv w.f ra
      exact this
    · rw [toDs_get, List.getElem?_eq_getElem hj]; rfl
    · rw [toDs_get, List.getElem?_eq_getElem (by omega)] at hz
      cases hz
      have := hn m hm
      exact Bool.eq_false_iff.mpr this
  · exact h.elim
/-! ### xs[::-1] -/
@[simp] def eRev (f : Env → Rs PV) (env : Env) : Rs PV := (f env).bind fun x => match x with
  | .lst xs => .ok (.lst xs.reverse)
  | _ => .stuck
theorem RepL.app {K : PySem.W.Frag} {F : Hp} : ∀ {xs ys : List PV} {vs ws : List V}, RepL K F xs vs → RepL K F ys ws → RepL K F (xs ++ ys) (vs ++ ws)
  | [], _, _, _, h, k => by rw [show _ = [] from h]; exact k
  | _ :: _, _, _, _, ⟨v, r, e, p, q⟩, k => by subst e; exact ⟨v, _, rfl, p, q.app k⟩
theorem RepL.rev {K : PySem.W.Frag} {F : Hp} : ∀ {xs : List PV} {vs : List V}, RepL K F xs vs → RepL K F xs.reverse vs.reverse
  | [], _, h => by rw [show _ = [] from h]; rfl
  | x :: xs, _, ⟨v, r, e, p, q⟩ => by
    subst e
    rw [List.reverse_cons, List.reverse_cons]
    exact q.rev.app ⟨v, [], rfl, p, rfl⟩
theorem qe_rev {k : Nat} {p1 p2 p3 : Pos} {f : Env → Rs PV} (hd : d ≤ 1) (h : QE P ds 3 e f) : QE P ds d (.Subscript e (.Slice none none (some (.UnaryOp .USub (.Constant (.int 1) k p1) p2)) p3) pos) (eRev f) :=
  PE.imp (pe_revL h) fun σ H Q ⟨F, ω, env, r, q⟩ => by
    refine lift.to r (Rs.wp_bind.mp q) (fun _ z => z) fun x hx F1 ω1 H1 v l1 w1 s1 _ => ?_
    cases x <;> first | exact hx.elim | skip
    rename_i xs
    obtain ⟨a, vs, e1, e2, r1⟩ := Rv.lst w1 s1
    exact ⟨a, vs, e1, SqL.of e2, Val.newL hd (Val.mono hx l1) w1 r1.rev⟩
/-! ### list(range(..)) -/
@[simp] def eLR1 (f : Env → Rs PV) (env : Env) : Rs PV := (f env).bind fun x => match x with
  | .int n => if n.natAbs ≤ 16777216 then .ok (.lst (rng 0 n)) else .stuck
  | _ => .stuck
@[simp] def eLR2 (f g : Env → Rs PV) (env : Env) : Rs PV := (f env).bind fun x => (g env).bind fun y => match x, y with
  | .int i, .int j => if i.natAbs ≤ 8388608 ∧ j.natAbs ≤ 8388608 then .ok (.lst (rng i j)) else .stuck
  | _, _ => .stuck
theorem rep_rng {K : PySem.W.Frag} {F : Hp} (a b : Int) : RepL K F (rng a b) (rgV a b) := by
  unfold rng rgV
  generalize List.range (b - a).toNat = l
  induction l with
  | nil => rfl
  | cons k l ih => exact ⟨_, _, rfl, rfl, ih⟩
theorem qe_listR1 {a : Expr} {p p2 pos2 : Pos} {f : Env → Rs PV} (hd : d ≤ 1) (hc : P.X.calm = true) (hg : Gl P.X "list") (hm : P.X.mg "list" = none) (hg2 : Gl P.X "range") (hm2 : P.X.mg "range" = none) (h : QE P ds 0 a f)
    (na : starEach [a] P.X.env = (false, eval a P.X.env) :: starEach [] P.X.env := by rfl)
    (nb : starEach [.Call (.Name "range" p2) [a] [] pos2] P.X.env = (false, eval (.Call (.Name "range" p2) [a] [] pos2) P.X.env) :: starEach [] P.X.env := by rfl) :
    QE P ds d (.Call (.Name "list" p) [.Call (.Name "range" p2) [a] [] pos2] [] pos) (eLR1 f) :=
  PE.imp (pe_listRg hc hg hm (prg_1 hg2 hm2 h na) nb) fun σ H Q ⟨F, ω, env, r, q⟩ => by
    refine lift.to r (Rs.wp_bind.mp q) (fun _ z => z) fun x hx F1 ω1 H1 v l1 w1 s1 _ => ?_
    cases x <;> first | exact hx.elim | skip
    rename_i n
    obtain ⟨hz, hx⟩ := ite_st hx
    exact ⟨n, s1, ⟨by omega, by omega, by omega, by omega, by omega⟩, Val.newL hd (Val.mono hx l1) w1 (rep_rng 0 n)⟩
theorem qe_listR2 {a b : Expr} {p p2 pos2 : Pos} {f g : Env → Rs PV} (hd : d ≤ 1) (hc : P.X.calm = true) (hg : Gl P.X "list") (hm : P.X.mg "list" = none) (hg2 : Gl P.X "range") (hm2 : P.X.mg "range" = none) (h : QE P ds 0 a f) (h2 : QE P ds 0 b g)
    (na : starEach [a, b] P.X.env = (false, eval a P.X.env) :: starEach [b] P.X.env := by rfl)
    (nc : starEach [b] P.X.env = (false, eval b P.X.env) :: starEach [] P.X.env := by rfl) (hp : (backTo pos2 (starEach [b] P.X.env)).any (·.1) = false := by rfl)
    (nb : starEach [.Call (.Name "range" p2) [a, b] [] pos2] P.X.env = (false, eval (.Call (.Name "range" p2) [a, b] [] pos2) P.X.env) :: starEach [] P.X.env := by rfl) :
    QE P ds d (.Call (.Name "list" p) [.Call (.Name "range" p2) [a, b] [] pos2] [] pos) (eLR2 f g) :=
  PE.imp (pe_listRg hc hg hm (prg_2 hg2 hm2 h h2 na nc hp) nb) fun σ H Q ⟨F, ω, env, r, q⟩ => by
    refine lift.to r (Rs.wp_bind.mp q) (fun _ z => z) fun x hx F1 ω1 H1 v l1 w1 s1 _ => ?_
    refine lift.to (r.mono l1 w1) (Rs.wp_bind.mp hx) (fun c z => z.mono l1.h) fun y hy F2 ω2 H2 u l2 w2 s2 _ => ?_
    cases x <;> first | exact hy.elim | skip
    cases y <;> first | exact hy.elim | skip
    rename_i i j
    obtain ⟨hz, hy⟩ := ite_st hy
    exact ⟨i, j, s1, s2, ⟨by omega, by omega, by omega, by omega, by omega⟩, Val.newL hd (Val.mono hy (l1.trans l2)) w2 (rep_rng i j)⟩
/-! ### a comprehension within a comprehension -/
theorem lookup_re {env : PySem.Env} {y : Str} : ∀ {names : List (Str × NameKind)}, names.lookup y = some .cell ∨ names.lookup y = some .free →
    (names.map fun (n, k) => if (k == NameKind.free && env.scope.kind == .function && env.kindOf n == some .cell) then (n, NameKind.cell) else (n, k)).lookup y = some .cell ∨
    (names.map fun (n, k) => if (k == NameKind.free && env.scope.kind == .function && env.kindOf n == some .cell) then (n, NameKind.cell) else (n, k)).lookup y = some .free
  | [], h => by simp at h
  | (n, k) :: r, h => by
    rw [List.map_cons]
    by_cases e : y == n
    · have hk : k = .cell ∨ k = .free := by simpa [List.lookup_cons, e] using h
      rcases hk with rfl | rfl
      · left; simp [List.lookup_cons, e]
      · by_cases c : (NameKind.free == NameKind.free && env.scope.kind == .function && env.kindOf n == some .cell) = true
        · left; simp only [c, if_true]; simp [List.lookup_cons, e]
        · right; simp only [c]; simp [List.lookup_cons, e]
    · have h' : r.lookup y = some .cell ∨ r.lookup y = some .free := by simpa [List.lookup_cons, e] using h
      have ih := lookup_re (env := env) h'
      have e2 : ∀ z : Str × NameKind, z.1 = n → (z :: (r.map fun (n, k) => if (k == NameKind.free && env.scope.kind == .function && env.kindOf n == some .cell) then (n, NameKind.cell) else (n, k))).lookup y = (r.map fun (n, k) => if (k == NameKind.free && env.scope.kind == .function && env.kindOf n == some .cell) then (n, NameKind.cell) else (n, k)).lookup y := fun z hz => by
        rw [List.lookup_cons, hz]
        simp [e]
      by_cases c : (k == NameKind.free && env.scope.kind == .function && env.kindOf n == some .cell) = true
      · simp only [c, if_true]
        rw [e2 (n, .cell) rfl]; exact ih
      · simp only [if_neg c]
        rw [e2 (n, k) rfl]; exact ih
theorem blk_re {N : List Str} {sc scope : Scope} {own : List (Str × Nat)} {env : PySem.Env} (h : BlkOk N sc scope own) : BlkOk N (relabel sc env) scope own :=
  ⟨h.kind, h.uniq, h.ix, fun y hy e => lookup_re (h.free y hy e), h.own⟩
theorem qe_lcN {P0 : Px} {s0 : Shared} {H0 : Hp} {scope0 : Scope} {C0 : Addr} {cl0 : List (Str × Addr)} {fp0 : List Addr} {tg : Expr} (hd : d ≤ 1) {iter elt : Expr} {ifs : List Expr} {scope : Scope} {own : List (Str × Nat)} {bb : Bool} {fi : Env → Rs (List PV)} {tgt : Tg} {tt : Env → Rs Bool} {fe : Env → Rs PV}
    (hc : (P0.blk s0 H0 scope0 C0 cl0 fp0).X.calm = true) (hN : (P0.blk s0 H0 scope0 C0 cl0 fp0).X.N.Nodup) (hi : QI (P0.blk s0 H0 scope0 C0 cl0 fp0) ds bb tg iter fi)
    (ok : BlkOk P0.X.N scope0 scope own) (hsub : ∀ j ∈ tgI tgt, j ∈ own.map (·.2)) (hg : ∀ (s : Shared) (H : Hp) (C : Addr) (cl : List (Str × Addr)) (fp : List Addr), QG ((P0.blk s0 H0 scope0 C0 cl0 fp0).blk s H scope C cl fp) ds tg tgt)
    (ht : ∀ (s : Shared) (H : Hp) (C : Addr) (cl : List (Str × Addr)) (fp : List Addr), QTs ((P0.blk s0 H0 scope0 C0 cl0 fp0).blk s H scope C cl fp) ds ifs tt)
    (he : ∀ (s : Shared) (H : Hp) (C : Addr) (cl : List (Str × Addr)) (fp : List Addr), QE ((P0.blk s0 H0 scope0 C0 cl0 fp0).blk s H scope C cl fp) ds 0 elt fe) (hs : ∀ x, foldedSetIterable iter (P0.blk s0 H0 scope0 C0 cl0 fp0).X.env x = pure x := by intro _; rfl) :
    QE (P0.blk s0 H0 scope0 C0 cl0 fp0) ds d (.ListComp elt [⟨tg, iter, ifs, 0⟩] scope pos) (eLc (own.map (·.2)) fi tgt tt fe) :=
  qe_lc hd hc hN hi (blk_re ok) hsub hg ht he hs
/-! ### range with a step -/
def rng3 (i j c : Int) : List PV := (List.range (Builtin.Range.rangeSize i j c).toNat).map fun k => PV.int (i + (k : Nat) * c)
def rOk3 (i j c : Int) : Bool := decide (c ≠ 0 ∧ c.natAbs < 1073741824) && Builtin.Range.small i j c
@[simp] def iR3 (f : Env → Rs (List PV)) (env : Env) : Rs (List PV) := (f env).bind fun xs => match xs with
  | [.int i, .int j, .int c] => if rOk3 i j c = true then .ok (rng3 i j c) else .stuck
  | _ => .stuck
theorem rng3_len (i j c : Int) : (rng3 i j c).length = (Builtin.Range.rangeSize i j c).toNat := by unfold rng3; rw [List.length_map, List.length_range]
theorem itc_ok {K : PySem.W.Frag} {F B : Hp} {i j c : Int} : ItOk K F B (Itc i c (Builtin.Range.rangeSize i j c).toNat) (rng3 i j c) :=
  ⟨_, _, by rw [rng3_len]; exact walk_rangeC, fun _ _ => True.intro, fun k Hh v H' x e _ _ y => .inl (by
    obtain ⟨y1, y2⟩ := y
    unfold rng3 at e
    rw [List.getElem?_map] at e
    obtain ⟨m, h1, h2⟩ := Option.map_eq_some_iff.mp e
    obtain ⟨h3, h4⟩ := List.getElem?_eq_some_iff.mp h1
    rw [List.getElem_range] at h4
    subst h4 h2
    exact ⟨y1, y2⟩)⟩
theorem rv3 {K : PySem.W.Frag} {F H : Hp} {x y z : PV} {vs : List V} (h : RvL K F H [x, y, z] vs) : ∃ v u t, vs = [v, u, t] ∧ Rv K F H x v ∧ Rv K F H y u ∧ Rv K F H z t := by
  obtain ⟨v, r, e, h1, h2⟩ := h
  obtain ⟨u, t, e2, h3, h4⟩ := rv2 h2
  subst e2
  exact ⟨v, u, t, e, h1, h3, h4⟩
theorem qi_range3 {tg a b c : Expr} {p : Pos} {f : Env → Rs (List PV)} (hg : Gl P.X "range") (hm : P.X.mg "range" = none) (ha : QR P ds [a, b, c] f) (hs : starEach [a, b, c] P.X.env = (false, eval a P.X.env) :: starEach [b, c] P.X.env := by rfl) (hpl : (backTo pos (starEach [b, c] P.X.env)).any (·.1) = false := by rfl) :
    QI P ds true tg (.Call (.Name "range" p) [a, b, c] [] pos) (iR3 f) :=
  PI.imp (pi_range3 hg hm ha.1 hs hpl) fun σ H R ⟨F, ω, env, r, q⟩ => by
    have q := Rs.wp_bind.mp q
    cases hf : f env with
    | stuck => rw [hf] at q; exact q.elim
    | exc c => rw [hf] at q; exact ⟨F, ω, env, r, by rw [hf]; exact q⟩
    | ok xs =>
      have hl := ha.2 env xs hf
      rw [hf] at q
      match xs, hl with
      | [y, z, t], _ =>
        cases y <;> first | exact q.elim | skip
        rename_i i _
        cases z <;> first | exact q.elim | skip
        rename_i j _
        cases t <;> first | exact q.elim | skip
        rename_i k _
        obtain ⟨hz, q⟩ := ite_st q
        unfold rOk3 at hz
        rw [Bool.and_eq_true] at hz
        obtain ⟨h1, h2⟩ := hz
        obtain ⟨h1, h3⟩ := of_decide_eq_true h1
        refine ⟨F, ω, env, r, ?_⟩
        rw [hf]
        intro F' ω' H' vs l w s
        obtain ⟨v, u, t, rfl, q1, q2, q3⟩ := rv3 s
        exact ⟨i, j, k, _, by rw [q1.int, q2.int, q3.int], ⟨h1, h3, h2, PyProof.Rows.rangeSize_toNat i j k⟩, q F' ω' H' _ l w itc_ok⟩
end
end Pw

namespace Pw
open PySem L2 PySem.Spec PyProof.Rows RT
section
variable {prog : Program} {w : World} {A : Around} {s : Shared}
/-- list.__init__ over a list's reverse iterator -/
theorem initRev {R : Result → Shared → Prop} {it l S : Addr} {items : Array Value} (hh : A.handled = none) (hi : s.heap.IsRevIter it l ((items.size : Int) - 1)) (hl : s.heap.IsList l items) (ne : l ≠ it) (nS : S ≠ it) (nS2 : S ≠ l)
    (hn : items.size ≤ sizeLine) (hS : s.heap.get? S = some { cls := .type "list", data := .seq #[] })
    (hR : ∀ (h' : Heap) (tk : Nat) (acc : Array Value) (c : Nat), (∀ b o, b ≠ S → b ≠ it → s.heap.get? b = some o → h'.get? b = some o) → h'.get? S = some { cls := .type "list", dict := none, data := .seq acc c, slots := #[] } →
      ItemsOf (fun i v => items[items.size - 1 - i]? = some v) acc items.size → R (.ok (.ret .none)) { s with heap := h', toks := tk }) :
    wpAny (model prog w) A.in1 (Builtin.«list.__init__» ⟨[.ref S, .ref it], []⟩)
      (fun f s' => match f with | .done g => R (.ok g) s' | .again c' => c'.quiet = true ∧ codeAny (model prog w) A c' R s') (fun e s' => R (.error e) s') s := by
  have W := (Walks.listRev (prog := prog) (w := w) (A := A.in1) hh it l ne items).toS
  have out : S ∉ [it, l] := by simp only [List.mem_cons, List.not_mem_nil, or_false, not_or]; exact ⟨nS, nS2⟩
  show wpAny _ _ (do let old ← Builtin.List.listItems (.ref S); Builtin.List.listUpdate (.ref S) (fun _ => #[]); letGo old.toList.reverse; Builtin.List.listExtendWith (.ref S) (.ref it) .none) _ _ s
  refine wpAny_bind ?g1; unfold Builtin.List.listItems; refine wpAny_bind (wpAny_seqItems hS rfl (wpAny_pure ?_))
  show wpAny _ _ (updateSeq S (fun _ => #[]) >>= fun _ => letGo (#[] : Array Value).toList.reverse >>= fun _ => Builtin.List.listExtendWith (.ref S) (.ref it) .none) _ _ s
  refine wpAny_bind (wpAny_updateSeq hS rfl ?g2)
  have hS1 := Heap.get?_update_self (Obj.mapSeq (fun _ => (#[] : Array Value))) hS rfl
  have oth : ∀ b o, b ≠ S → s.heap.get? b = some o → (s.heap.update S (Obj.mapSeq (fun _ => (#[] : Array Value)))).get? b = some o := fun b o hb e => (Heap.get?_update_other _ _ (Ne.symm hb)).trans e
  refine wpAny_bind (wpAny_letGo ?g3)
  generalize s.heap.update S (Obj.mapSeq (fun _ => (#[] : Array Value))) = hp at hS1 oth ⊢
  obtain ⟨ol, hol, _⟩ := id hl
  have hi1 : hp.IsRevIter it l ((items.size : Int) - 1) := hi.at fun o e => oth _ _ (Ne.symm nS) e
  have hl1 : hp.IsList l items := by
    obtain ⟨ol, hol, hr⟩ := hl
    exact ⟨ol, oth _ _ (Ne.symm nS2) hol, hr⟩
  have ty : ({ s with heap := hp } : Shared).TypeIs (.ref it) "list_reverseiterator" := Heap.IsRevIter.typeIs (s := { s with heap := hp }) hi1
  have df : Builtin.List.listSameRef (.ref S) (.ref it) = false := by simp [Builtin.List.listSameRef, nS]
  unfold Builtin.List.listExtendWith; refine wpAny_bind (wpAny_typeOf ty ?_)
  rw [if_neg (by rw [df]; decide)]
  refine wpAny_bind (wpAny_pyIter_revIter (s := { s with heap := hp }) hi1 ?_)
  refine wpAny_bind (wpAny_holding ?_); unfold Builtin.List.listLengthHint; refine wpAny_bind (wpAny_specialOf ty nolen_lri ?_)
  show wpAny _ A.in1 (specialOf (Value.ref it) (Str.ofString "__length_hint__") >>= _) _ _ _
  refine wpAny_bind (wpAny_specialOf ty hint_lri ?_)
  generalize hid : ("list_reverseiterator.__length_hint__" : String) = id0
  wp_delta
  rw [show splitId id0 = some ("list_reverseiterator", "__length_hint__") from by subst hid; decide +kernel]
  subst hid
  refine wpAny_bind (wpAny_isInstance (b := true) ty (by rw [isSubtype_type]; kernel_rfl) ?_)
  refine wpAny_pure ?_
  rw [if_neg (by decide)]
  have e0 : ((items.size : Nat) : Int) - 1 - ((0 : Nat) : Int) = (items.size : Int) - 1 := by omega
  refine wpAny_pure ⟨plainId_quiet F.plain_extend_loop _, codeAny_extend_loopS W hn _ out _ items.size 0 _ _ _ rfl (Nat.zero_le _) ⟨Nat.zero_le _, by rw [e0]; exact hi1, hl1⟩ hS1 (ItemsOf.nil _) fun s' acc c hm hS' hacc => ?_⟩
  rw [Moved.eq_with hm]
  refine hR s'.heap s'.toks acc c (fun b o hb hb2 e => hm.heap b o (fun hmem => ?_) (oth b o hb e)) hS' hacc
  rcases List.mem_cons.mp hmem with e' | hmem
  · exact hb e'
  · exact hb2 (List.mem_singleton.mp hmem)
theorem callListRev {E Q : Value → Shared → Prop} {it l : Addr} {items : Array Value} (hh : A.handled = none) (hi : s.heap.IsRevIter it l ((items.size : Int) - 1)) (hl : s.heap.IsList l items) (ne : l ≠ it) (hn : items.size ≤ sizeLine)
    (hQ : ∀ (h' : Heap) (tk : Nat) (acc : Array Value) (c : Nat), (∀ b o, b ≠ it → s.heap.get? b = some o → h'.get? b = some o) → h'.get? s.heap.objs.size = some { cls := .type "list", dict := none, data := .seq acc c, slots := #[] } →
      ItemsOf (fun i v => items[items.size - 1 - i]? = some v) acc items.size → Q (.ref s.heap.objs.size) { s with heap := h', toks := tk }) :
    wpAny (model prog w) A (call (.type "list") [.ref it]) Q E s := by
  obtain ⟨oi, hoi, _⟩ := id hi
  obtain ⟨ol, hol, _⟩ := id hl
  refine callType_codes (Q₁ := fun v s1 => v = .ref s.heap.objs.size ∧ s1 = { s with heap := s.heap.push { cls := .type "list", data := .seq #[] } }) F.called_list (F.typeCall_list_1 _) F.entry_list_init (code_list_new _ ⟨rfl, rfl⟩) fun v s1 hv => ?_
  obtain ⟨rfl, rfl⟩ := hv
  have hS : (s.heap.push { cls := .type "list", data := .seq #[] }).get? s.heap.objs.size = some { cls := .type "list", data := .seq #[] } := Heap.get?_push_size _ rfl
  refine ⟨⟨_, hS, rfl⟩, F.args_list_init_2 _ _, initRev (A := A.in1) (s := { s with heap := s.heap.push { cls := .type "list", data := .seq #[] } }) hh (hi.at fun o e => Heap.get?_push_of_some _ e) (hl.push _) ne (Nat.ne_of_gt (Heap.lt_size hoi)) (Nat.ne_of_gt (Heap.lt_size hol)) hn hS fun h' tk acc c hk hS' hacc => ?_⟩
  exact ⟨rfl, hQ h' tk acc c (fun b o hb e => hk b o (Nat.ne_of_lt (Heap.lt_size e)) hb (Heap.get?_push_of_some _ e)) hS' hacc⟩
end
section
variable {X : Cx} {e : Expr} {te : TE} {p p2 pos pos2 : Pos}
def tLR (K : PySem.W.Frag) (te : TE) : TE := fun σ H Q => te σ H fun v H1 => ∃ (a : Addr) (xs : List V), v = .ref a ∧ SqL K H1 a xs ∧ ∀ q, H1 q = none → Q (.ref q) (upd H1 q (.lst xs.reverse))
theorem peListRev (hc : X.calm = true) (hg : Gl X "list") (hm : X.mg "list" = none) (hg2 : Gl X "reversed") (hm2 : X.mg "reversed" = none) (he : PE X e te)
    (hs : starEach [e] X.env = (false, eval e X.env) :: starEach [] X.env := by rfl)
    (hs2 : starEach [.Call (.Name "reversed" p2) [e] [] pos2] X.env = (false, eval (.Call (.Name "reversed" p2) [e] [] pos2) X.env) :: starEach [] X.env := by rfl) :
    PE X (.Call (.Name "list" p) [.Call (.Name "reversed" p2) [e] [] pos2] [] pos) (tLR X.K te) := by
  constructor; intro pins s σ H Q I h
  refine Call_ (ld_blt I hg hm boot_list (PyProof.Rows.callWith_type1 (args_cons (Call_ (ld_blt I hg2 hm2 PyProof.Rows.boot_reversed (PyProof.Rows.callWith_type1 (args_cons (L2.thn (he.run pins s σ H _ I h) fun u s1 ⟨v, H1, I1, r1, q1⟩ => args_nil ?_) hs) hs rfl))) hs2) hs2 rfl))
  obtain ⟨a, xs, rfl, hq, q⟩ := q1
  obtain rfl : u = Value.ref a := r1
  obtain ⟨its, rv, pr, hz⟩ := I1.list hq
  refine call_reversed_list pr.isList (args_nil ?g)
  have kp : ∀ b o, s1.heap.get? b = some o → (s1.heap.push (revObj a ((its.toArray.size : Int) - 1))).get? b = some o := fun b o e => Heap.get?_push_of_some _ e
  have il := pr.isList
  obtain ⟨ol, hol, _⟩ := id il
  have ne : a ≠ s1.heap.objs.size := Nat.ne_of_lt (Heap.lt_size hol)
  have sz : its.toArray.size ≤ sizeLine := by rw [List.size_toArray, ← rv.length]; exact hz
  refine callListRev (s := { s1 with heap := s1.heap.push (revObj a ((its.toArray.size : Int) - 1)) }) (I1.ok.hd hc) ⟨_, Heap.get?_push_size _ rfl, rfl, rfl⟩ (il.push _) ne sz fun h' tk acc c hk hS hi => ?_
  have e2 : (s1.heap.push (revObj a ((its.toArray.size : Int) - 1))).objs.size = s1.heap.objs.size + 1 := by simp [Heap.push]
  have hS2 : h'.get? (s1.heap.objs.size + 1) = some { cls := .type "list", dict := none, data := .seq acc c, slots := #[] } := by rw [← e2]; exact hS
  show EP X pins σ Q (.ref (s1.heap.push (revObj a ((its.toArray.size : Int) - 1))).objs.size) { s1 with heap := h', toks := tk }
  rw [e2]
  refine ⟨.ref (s1.heap.objs.size + 1), upd H1 (s1.heap.objs.size + 1) (.lst xs.reverse), I1.laid (fun b o e => hk b o (Nat.ne_of_lt (Heap.lt_size e)) (kp b o e)) (Nat.le_succ _) (show ObjOk X.prog X.w _ _ _ (.lst xs.reverse) from ⟨by rw [List.length_reverse]; exact hz, acc.toList, c, vals_rev rv hi, ?_⟩), rfl, q _ (I1.hok.fresh (Nat.le_succ _))⟩
  rw [Array.toArray_toList]; exact hS2
end
/-! ### list(reversed(xs)) -/
section
variable {P : Px} {ds : List Nat} {pos p p2 pos2 : Pos} {e : Expr} {d : Nat}
theorem qe_listRev {f : Env → Rs PV} (hd : d ≤ 1) (hc : P.X.calm = true) (hg : Gl P.X "list") (hm : P.X.mg "list" = none) (hg2 : Gl P.X "reversed") (hm2 : P.X.mg "reversed" = none) (h : QE P ds 3 e f)
    (hs : starEach [e] P.X.env = (false, eval e P.X.env) :: starEach [] P.X.env := by rfl)
    (hs2 : starEach [.Call (.Name "reversed" p2) [e] [] pos2] P.X.env = (false, eval (.Call (.Name "reversed" p2) [e] [] pos2) P.X.env) :: starEach [] P.X.env := by rfl) :
    QE P ds d (.Call (.Name "list" p) [.Call (.Name "reversed" p2) [e] [] pos2] [] pos) (eRev f) :=
  PE.imp (peListRev hc hg hm hg2 hm2 h hs hs2) fun σ H Q ⟨F, ω, env, r, q⟩ => by
    refine lift.to r (Rs.wp_bind.mp q) (fun _ z => z) fun x hx F1 ω1 H1 v l1 w1 s1 _ => ?_
    cases x <;> first | exact hx.elim | skip
    rename_i xs
    obtain ⟨a, vs, e1, e2, r1⟩ := Rv.lst w1 s1
    exact ⟨a, vs, e1, SqL.of e2, Val.newL hd (Val.mono hx l1) w1 r1.rev⟩
end
end Pw

namespace Pw.Lib
open PySem L2 Pw
def c_ZERO : PV := .tup [.int 0, .int 1]
noncomputable def b_fraction : Env → Rs Out := (sSeq (sIf (eT (eOp oLt (eV 1) (eC (.int 0)))) (sSeq (sPar 0 1 (eNeg (eV 0)) (eNeg (eV 1))) sNil) sNil) (sSeq (sSet 2 (eCall oGcd (aCons (eV 0) (aCons (eV 1) aNil)))) (sSeq (sRet (eTup (aCons (eOp oDiv (eV 0) (eV 2)) (aCons (eOp oDiv (eV 1) (eV 2)) aNil)))) sNil)))
noncomputable def d_fraction : List PV → Rs PV := runB 0 3 b_fraction
noncomputable def b_whole : Env → Rs Out := (sSeq (sRet (eTup (aCons (eV 0) (aCons (eC (.int 1)) aNil)))) sNil)
noncomputable def d_whole : List PV → Rs PV := runB 0 1 b_whole
noncomputable def b_plus : Env → Rs Out := (sSeq (sRet (eFun d_fraction (aCons (eOp oAdd (eOp oMul (eOp oIx (eV 0) (eC (.int 0))) (eOp oIx (eV 1) (eC (.int 1)))) (eOp oMul (eOp oIx (eV 1) (eC (.int 0))) (eOp oIx (eV 0) (eC (.int 1))))) (aCons (eOp oMul (eOp oIx (eV 0) (eC (.int 1))) (eOp oIx (eV 1) (eC (.int 1)))) aNil)))) sNil)
noncomputable def d_plus : List PV → Rs PV := runB 0 2 b_plus
noncomputable def b_minus : Env → Rs Out := (sSeq (sRet (eFun d_fraction (aCons (eOp oSub (eOp oMul (eOp oIx (eV 0) (eC (.int 0))) (eOp oIx (eV 1) (eC (.int 1)))) (eOp oMul (eOp oIx (eV 1) (eC (.int 0))) (eOp oIx (eV 0) (eC (.int 1))))) (aCons (eOp oMul (eOp oIx (eV 0) (eC (.int 1))) (eOp oIx (eV 1) (eC (.int 1)))) aNil)))) sNil)
noncomputable def d_minus : List PV → Rs PV := runB 0 2 b_minus
noncomputable def b_times : Env → Rs Out := (sSeq (sRet (eFun d_fraction (aCons (eOp oMul (eOp oIx (eV 0) (eC (.int 0))) (eOp oIx (eV 1) (eC (.int 0)))) (aCons (eOp oMul (eOp oIx (eV 0) (eC (.int 1))) (eOp oIx (eV 1) (eC (.int 1)))) aNil)))) sNil)
noncomputable def d_times : List PV → Rs PV := runB 0 2 b_times
noncomputable def b_over : Env → Rs Out := (sSeq (sRet (eFun d_fraction (aCons (eOp oMul (eOp oIx (eV 0) (eC (.int 0))) (eOp oIx (eV 1) (eC (.int 1)))) (aCons (eOp oMul (eOp oIx (eV 0) (eC (.int 1))) (eOp oIx (eV 1) (eC (.int 0)))) aNil)))) sNil)
noncomputable def d_over : List PV → Rs PV := runB 0 2 b_over
noncomputable def b_is_less : Env → Rs Out := (sSeq (sRet (eOp oLt (eOp oMul (eOp oIx (eV 0) (eC (.int 0))) (eOp oIx (eV 1) (eC (.int 1)))) (eOp oMul (eOp oIx (eV 1) (eC (.int 0))) (eOp oIx (eV 0) (eC (.int 1)))))) sNil)
noncomputable def d_is_less : List PV → Rs PV := runB 0 2 b_is_less
noncomputable def lp1_sum_of : Env → Rs Out := (sSeq (sSet 1 (eFun d_plus (aCons (eV 1) (aCons (eV 2) aNil)))) sNil)
@[simp] noncomputable def k1_sum_of (env : Env) : Rs Out := (sSeq (sRet (eV 1)) sNil) env
noncomputable def b_sum_of : Env → Rs Out := (sSeq (sSet 1 (eC c_ZERO)) (sSeq (sFor (iE (eV 0)) (.n 2) lp1_sum_of) k1_sum_of))
noncomputable def d_sum_of : List PV → Rs PV := runB 0 3 b_sum_of
noncomputable def b_lesser : Env → Rs Out := (sSeq (sIf (eTru (eFun d_is_less (aCons (eV 1) (aCons (eV 0) aNil)))) (sSeq (sRet (eV 1)) sNil) sNil) (sSeq (sRet (eV 0)) sNil))
noncomputable def d_lesser : List PV → Rs PV := runB 0 2 b_lesser
noncomputable def b_greater : Env → Rs Out := (sSeq (sIf (eTru (eFun d_is_less (aCons (eV 0) (aCons (eV 1) aNil)))) (sSeq (sRet (eV 1)) sNil) sNil) (sSeq (sRet (eV 0)) sNil))
noncomputable def d_greater : List PV → Rs PV := runB 0 2 b_greater
noncomputable def b_is_whole : Env → Rs Out := (sSeq (sRet (eAnd (eIsi "int" (eV 0)) (eNot (eIsi "bool" (eV 0))))) sNil)
noncomputable def d_is_whole : List PV → Rs PV := runB 0 1 b_is_whole
noncomputable def b_is_fraction : Env → Rs Out := (sSeq (sIf (tOrD (tNotD (eTru (eIsi "tuple" (eV 0)))) (tOrD (eT (eOp oNe (eCall oLen (aCons (eV 0) aNil)) (eC (.int 2)))) (tOrD (tNotD (eTru (eFun d_is_whole (aCons (eOp oIx (eV 0) (eC (.int 0))) aNil)))) (tNotD (eTru (eFun d_is_whole (aCons (eOp oIx (eV 0) (eC (.int 1))) aNil))))))) (sSeq (sRet (eC (.bl false))) sNil) sNil) (sSeq (sRet (eAnd (eOp oGe (eOp oIx (eV 0) (eC (.int 1))) (eC (.int 1))) (eOp oEq (eCall oGcd (aCons (eOp oIx (eV 0) (eC (.int 0))) (aCons (eOp oIx (eV 0) (eC (.int 1))) aNil))) (eC (.int 1))))) sNil))
noncomputable def d_is_fraction : List PV → Rs PV := runB 0 1 b_is_fraction
noncomputable def b_law_cell : Env → Rs Out := (sSeq (sIf (eT (eOp oLt (eV 1) (eCall oLen (aCons (eV 0) aNil)))) (sSeq (sRet (eCall oInt (aCons (eOp oIx (eV 0) (eV 1)) aNil))) sNil) sNil) (sSeq (sRet (eC (.int 0))) sNil))
noncomputable def d_law_cell : List PV → Rs PV := runB 0 2 b_law_cell
noncomputable def lp2_law_numbers : Env → Rs Out := (sSeq (sSet 5 (eOp oMod (eCall oInt (aCons (eOp oAdd (eOp oAdd (eOp oMul (eV 0) (eC (.int 48271))) (eOp oMul (eV 4) (eC (.int 69621)))) (eC (.int 7))) aNil)) (eC (.int 2147483647)))) (sSeq (sSet 5 (eOp oMod (eCall oInt (aCons (eOp oAdd (eOp oAdd (eOp oAdd (eOp oMul (eV 5) (eV 5)) (eOp oMul (eV 5) (eC (.int 40692)))) (eOp oMul (eV 4) (eC (.int 16807)))) (eC (.int 11))) aNil)) (eC (.int 2147483399)))) (sSeq (sApp 3 (eOp oMod (eCall oInt (aCons (eOp oDiv (eV 5) (eC (.int 32))) aNil)) (eV 2))) sNil)))
@[simp] noncomputable def k2_law_numbers (env : Env) : Rs Out := (sSeq (sRet (eV 3)) sNil) env
noncomputable def lp1_law_numbers : Env → Rs Out := (sSeq (sApp 3 (eOp oMod (eCall oInt (aCons (eV 0) aNil)) (eV 2))) (sSeq (sSet 0 (eOp oDiv (eCall oInt (aCons (eV 0) aNil)) (eV 2))) sNil))
@[simp] noncomputable def k1_law_numbers (env : Env) : Rs Out := (sSeq (sRet (eV 3)) sNil) env
noncomputable def b_law_numbers : Env → Rs Out := (sSeq (sSet 3 (eLst aNil)) (sSeq (sIf (eT (eOp oGe (eV 0) (eOp oPow (eC (.int 10)) (eC (.int 18))))) (sSeq (sFor (iR (aCons (eV 1) aNil)) (.n 4) lp1_law_numbers) k1_law_numbers) sNil) (sSeq (sFor (iR (aCons (eV 1) aNil)) (.n 4) lp2_law_numbers) k2_law_numbers)))
noncomputable def d_law_numbers : List PV → Rs PV := runB 0 6 b_law_numbers
noncomputable def b_law_draws_a : Env → Rs Out := (sSeq (sRet (eFun d_law_numbers (aCons (eOp oAdd (eFun d_law_cell (aCons (eV 0) (aCons (eV 1) aNil))) (eOp oMul (eC (.int 101)) (eV 1))) (aCons (eV 2) (aCons (eC (.int 5040)) aNil))))) sNil)
noncomputable def d_law_draws_a : List PV → Rs PV := runB 0 3 b_law_draws_a
noncomputable def lp1_law_draws_b : Env → Rs Out := (sSeq (sIf (eTru (eV 4)) (sSeq (sApp 5 (eOp oMod (eCall oInt (aCons (eV 3) aNil)) (eC (.int 5040)))) (sSeq (sSet 3 (eOp oDiv (eV 3) (eC (.int 5040)))) sNil)) (sSeq (sSet 7 (eOp oMod (eCall oInt (aCons (eOp oAdd (eOp oAdd (eOp oMul (eV 3) (eC (.int 48271))) (eOp oMul (eOp oAdd (eV 6) (eOp oMul (eC (.int 71)) (eV 1))) (eC (.int 69621)))) (eC (.int 29))) aNil)) (eC (.int 2147483647)))) (sSeq (sSet 7 (eOp oMod (eCall oInt (aCons (eOp oAdd (eOp oAdd (eOp oMul (eV 7) (eV 7)) (eOp oMul (eV 7) (eC (.int 40692)))) (eOp oMul (eV 6) (eC (.int 7907)))) aNil)) (eC (.int 2147483399)))) (sSeq (sApp 5 (eOp oMod (eCall oInt (aCons (eOp oDiv (eV 7) (eC (.int 128))) aNil)) (eC (.int 5040)))) sNil)))) sNil)
@[simp] noncomputable def k1_law_draws_b (env : Env) : Rs Out := (sSeq (sRet (eV 5)) sNil) env
noncomputable def b_law_draws_b : Env → Rs Out := (sSeq (sSet 3 (eC (.int 0))) (sSeq (sIf (eT (eOp oLt (eV 1) (eCall oLen (aCons (eV 0) aNil)))) (sSeq (sSet 3 (eCall oInt (aCons (eOp oIx (eV 0) (eV 1)) aNil))) sNil) sNil) (sSeq (sSet 4 (eOp oGe (eV 3) (eOp oPow (eC (.int 10)) (eC (.int 18))))) (sSeq (sSet 5 (eLst aNil)) (sSeq (sFor (iR (aCons (eV 2) aNil)) (.n 6) lp1_law_draws_b) k1_law_draws_b)))))
noncomputable def d_law_draws_b : List PV → Rs PV := runB 0 8 b_law_draws_b
noncomputable def lp1_law_same (dself : List PV → Rs PV) : Env → Rs Out := (sSeq (sIf (tNotD (eTru (eFun dself (aCons (eOp oIx (eV 0) (eV 2)) (aCons (eOp oIx (eV 1) (eV 2)) aNil))))) (sSeq (sRet (eC (.bl false))) sNil) sNil) sNil)
@[simp] noncomputable def k1_law_same (dself : List PV → Rs PV) (env : Env) : Rs Out := (sSeq (sRet (eC (.bl true))) sNil) env
noncomputable def b_law_same (dself : List PV → Rs PV) : Env → Rs Out := (sSeq (sIf (eTru (eIsi "list" (eV 1))) (sSeq (sIf (tOrD (tNotD (eTru (eIsi "list" (eV 0)))) (eT (eOp oNe (eCall oLen (aCons (eV 0) aNil)) (eCall oLen (aCons (eV 1) aNil))))) (sSeq (sRet (eC (.bl false))) sNil) sNil) sNil) (sSeq (sIf (eTru (eIsi "tuple" (eV 1))) (sSeq (sIf (tOrD (tNotD (eTru (eIsi "tuple" (eV 0)))) (eT (eOp oNe (eCall oLen (aCons (eV 0) aNil)) (eCall oLen (aCons (eV 1) aNil))))) (sSeq (sRet (eC (.bl false))) sNil) sNil) sNil) (sSeq (sIf (eT (eOp oIs (eV 1) (eC .non))) (sSeq (sRet (eOp oIs (eV 0) (eC .non))) sNil) (sSeq (sIf (eTru (eIsi "bool" (eV 1))) (sSeq (sRet (eAnd (eIsi "bool" (eV 0)) (eOp oEq (eV 0) (eV 1)))) sNil) (sSeq (sIf (eTru (eIsi "int" (eV 1))) (sSeq (sRet (eAnd (eIsi "int" (eV 0)) (eAnd (eNot (eIsi "bool" (eV 0))) (eOp oEq (eV 0) (eV 1))))) sNil) (sSeq (sRet (eAnd (eIsi "str" (eV 0)) (eOp oEq (eV 0) (eV 1)))) sNil)) sNil)) sNil)) sNil)) sNil)) (sSeq (sFor (iR (aCons (eCall oLen (aCons (eV 1) aNil)) aNil)) (.n 2) (lp1_law_same dself)) (k1_law_same dself)))
noncomputable def d_law_sameN : Nat → List PV → Rs PV
  | 0 => fun _ => .stuck
  | n + 1 => runB 0 3 (b_law_same (d_law_sameN n))
noncomputable def d_law_same : List PV → Rs PV := d_law_sameN 14
noncomputable def lp1_law_like (dself : List PV → Rs PV) : Env → Rs Out := (sSeq (sIf (tNotD (eTru (eFun dself (aCons (eOp oIx (eV 0) (eV 2)) (aCons (eOp oIx (eV 1) (eV 2)) aNil))))) (sSeq (sRet (eC (.bl false))) sNil) sNil) sNil)
@[simp] noncomputable def k1_law_like (dself : List PV → Rs PV) (env : Env) : Rs Out := (sSeq (sRet (eC (.bl true))) sNil) env
noncomputable def b_law_like (dself : List PV → Rs PV) : Env → Rs Out := (sSeq (sIf (eTru (eIsi2 "list" "tuple" (eV 1))) (sSeq (sIf (tOrD (eT (eOp oNe (eIsi "list" (eV 0)) (eIsi "list" (eV 1)))) (eT (eOp oNe (eIsi "tuple" (eV 0)) (eIsi "tuple" (eV 1))))) (sSeq (sRet (eC (.bl false))) sNil) sNil) (sSeq (sIf (eT (eOp oNe (eCall oLen (aCons (eV 0) aNil)) (eCall oLen (aCons (eV 1) aNil)))) (sSeq (sRet (eC (.bl false))) sNil) sNil) (sSeq (sFor (iR (aCons (eCall oLen (aCons (eV 1) aNil)) aNil)) (.n 2) (lp1_law_like dself)) (k1_law_like dself)))) sNil) (sSeq (sIf (eT (eOp oIs (eV 1) (eC .non))) (sSeq (sRet (eOp oIs (eV 0) (eC .non))) sNil) sNil) (sSeq (sIf (eTru (eIsi "bool" (eV 1))) (sSeq (sRet (eAnd (eIsi "bool" (eV 0)) (eOp oEq (eV 0) (eV 1)))) sNil) sNil) (sSeq (sIf (eTru (eIsi "int" (eV 1))) (sSeq (sRet (eAnd (eIsi "int" (eV 0)) (eAnd (eNot (eIsi "bool" (eV 0))) (eOp oEq (eV 0) (eV 1))))) sNil) sNil) (sSeq (sRet (eAnd (eIsi "str" (eV 0)) (eOp oEq (eV 0) (eV 1)))) sNil)))))
noncomputable def d_law_likeN : Nat → List PV → Rs PV
  | 0 => fun _ => .stuck
  | n + 1 => runB 0 3 (b_law_like (d_law_likeN n))
noncomputable def d_law_like : List PV → Rs PV := d_law_likeN 14
noncomputable def b_law_copy (dself : List PV → Rs PV) : Env → Rs Out := (sSeq (sIf (eTru (eIsi "list" (eV 0))) (sSeq (sRet (eLc [1] (iE (eV 0)) (.n 1) tYesD (eFun dself (aCons (eV 1) aNil)))) sNil) sNil) (sSeq (sIf (eTru (eIsi "tuple" (eV 0))) (sSeq (sRet (eCall oTuple (aCons (eLc [1] (iE (eV 0)) (.n 1) tYesD (eFun dself (aCons (eV 1) aNil))) aNil))) sNil) sNil) (sSeq (sRet (eV 0)) sNil)))
noncomputable def d_law_copyN : Nat → List PV → Rs PV
  | 0 => fun _ => .stuck
  | n + 1 => runB 0 2 (b_law_copy (d_law_copyN n))
noncomputable def d_law_copy : List PV → Rs PV := d_law_copyN 14
noncomputable def b_law_copy_a (dself : List PV → Rs PV) : Env → Rs Out := (sSeq (sIf (eTru (eIsi "list" (eV 0))) (sSeq (sRet (eLc [1] (iE (eV 0)) (.n 1) tYesD (eFun dself (aCons (eV 1) aNil)))) sNil) sNil) (sSeq (sRet (eV 0)) sNil))
noncomputable def d_law_copy_aN : Nat → List PV → Rs PV
  | 0 => fun _ => .stuck
  | n + 1 => runB 0 2 (b_law_copy_a (d_law_copy_aN n))
noncomputable def d_law_copy_a : List PV → Rs PV := d_law_copy_aN 14
noncomputable def lp1_law_common : Env → Rs Out := (sSeq (sIf (eT (eOp oEq (eV 1) (eC (.int 0)))) (sSeq (sRet (eV 0)) sNil) sNil) (sSeq (sPar 0 1 (eV 1) (eOp oMod (eCall oInt (aCons (eV 0) aNil)) (eV 1))) sNil))
@[simp] noncomputable def k1_law_common (env : Env) : Rs Out := (sSeq (sRet (eV 0)) sNil) env
noncomputable def b_law_common : Env → Rs Out := (sSeq (sSet 0 (eCall oAbs (aCons (eV 0) aNil))) (sSeq (sSet 1 (eCall oAbs (aCons (eV 1) aNil))) (sSeq (sFor (iR (aCons (eC (.int 900)) aNil)) (.n 2) lp1_law_common) k1_law_common)))
noncomputable def d_law_common : List PV → Rs PV := runB 0 3 b_law_common
noncomputable def b_law_frac : Env → Rs Out := (sSeq (sIf (eT (eOp oLt (eV 1) (eC (.int 0)))) (sSeq (sSet 0 (eOp oSub (eC (.int 0)) (eV 0))) (sSeq (sSet 1 (eOp oSub (eC (.int 0)) (eV 1))) sNil)) sNil) (sSeq (sSet 2 (eFun d_law_common (aCons (eV 0) (aCons (eV 1) aNil)))) (sSeq (sRet (eTup (aCons (eOp oDiv (eV 0) (eV 2)) (aCons (eOp oDiv (eV 1) (eV 2)) aNil)))) sNil)))
noncomputable def d_law_frac : List PV → Rs PV := runB 0 3 b_law_frac
noncomputable def lp1_law_frac_b : Env → Rs Out := (sSeq (sPar 2 3 (eV 3) (eOp oMod (eCall oInt (aCons (eV 2) aNil)) (eV 3))) sNil)
@[simp] noncomputable def k1_law_frac_b (env : Env) : Rs Out := (sSeq (sRet (eTup (aCons (eOp oDiv (eV 0) (eV 2)) (aCons (eOp oDiv (eV 1) (eV 2)) aNil)))) sNil) env
noncomputable def b_law_frac_b : Env → Rs Out := (sSeq (sSet 2 (eCall oAbs (aCons (eV 0) aNil))) (sSeq (sSet 3 (eV 1)) (sSeq (sWhile (eT (eOp oGt (eV 3) (eC (.int 0)))) lp1_law_frac_b) k1_law_frac_b)))
noncomputable def d_law_frac_b : List PV → Rs PV := runB 0 4 b_law_frac_b
noncomputable def b_law_plus : Env → Rs Out := (sSeq (sRet (eFun d_law_frac (aCons (eOp oAdd (eOp oMul (eOp oIx (eV 0) (eC (.int 0))) (eOp oIx (eV 1) (eC (.int 1)))) (eOp oMul (eOp oIx (eV 1) (eC (.int 0))) (eOp oIx (eV 0) (eC (.int 1))))) (aCons (eOp oMul (eOp oIx (eV 0) (eC (.int 1))) (eOp oIx (eV 1) (eC (.int 1)))) aNil)))) sNil)
noncomputable def d_law_plus : List PV → Rs PV := runB 0 2 b_law_plus
noncomputable def b_law_minus : Env → Rs Out := (sSeq (sRet (eFun d_law_frac (aCons (eOp oSub (eOp oMul (eOp oIx (eV 0) (eC (.int 0))) (eOp oIx (eV 1) (eC (.int 1)))) (eOp oMul (eOp oIx (eV 1) (eC (.int 0))) (eOp oIx (eV 0) (eC (.int 1))))) (aCons (eOp oMul (eOp oIx (eV 0) (eC (.int 1))) (eOp oIx (eV 1) (eC (.int 1)))) aNil)))) sNil)
noncomputable def d_law_minus : List PV → Rs PV := runB 0 2 b_law_minus
noncomputable def b_law_times : Env → Rs Out := (sSeq (sRet (eFun d_law_frac (aCons (eOp oMul (eOp oIx (eV 0) (eC (.int 0))) (eOp oIx (eV 1) (eC (.int 0)))) (aCons (eOp oMul (eOp oIx (eV 0) (eC (.int 1))) (eOp oIx (eV 1) (eC (.int 1)))) aNil)))) sNil)
noncomputable def d_law_times : List PV → Rs PV := runB 0 2 b_law_times
noncomputable def b_law_less : Env → Rs Out := (sSeq (sRet (eOp oLt (eOp oMul (eOp oIx (eV 0) (eC (.int 0))) (eOp oIx (eV 1) (eC (.int 1)))) (eOp oMul (eOp oIx (eV 1) (eC (.int 0))) (eOp oIx (eV 0) (eC (.int 1)))))) sNil)
noncomputable def d_law_less : List PV → Rs PV := runB 0 2 b_law_less
noncomputable def b_law_plus_b : Env → Rs Out := (sSeq (sRet (eFun d_law_frac_b (aCons (eOp oAdd (eOp oMul (eOp oIx (eV 0) (eC (.int 0))) (eOp oIx (eV 1) (eC (.int 1)))) (eOp oMul (eOp oIx (eV 1) (eC (.int 0))) (eOp oIx (eV 0) (eC (.int 1))))) (aCons (eOp oMul (eOp oIx (eV 0) (eC (.int 1))) (eOp oIx (eV 1) (eC (.int 1)))) aNil)))) sNil)
noncomputable def d_law_plus_b : List PV → Rs PV := runB 0 2 b_law_plus_b
noncomputable def b_law_minus_b : Env → Rs Out := (sSeq (sRet (eFun d_law_frac_b (aCons (eOp oSub (eOp oMul (eOp oIx (eV 0) (eC (.int 0))) (eOp oIx (eV 1) (eC (.int 1)))) (eOp oMul (eOp oIx (eV 1) (eC (.int 0))) (eOp oIx (eV 0) (eC (.int 1))))) (aCons (eOp oMul (eOp oIx (eV 0) (eC (.int 1))) (eOp oIx (eV 1) (eC (.int 1)))) aNil)))) sNil)
noncomputable def d_law_minus_b : List PV → Rs PV := runB 0 2 b_law_minus_b
noncomputable def lp1_riders_in : Env → Rs Out := (sSeq (sIf (eT (eOp oEq (eOp oMod (eV 0) (eC (.int 2))) (eC (.int 1)))) (sSeq (sApp 1 (eV 2)) sNil) sNil) (sSeq (sSet 0 (eOp oDiv (eV 0) (eC (.int 2)))) (sSeq (sAug 2 ioAdd (eC (.int 1))) sNil)))
@[simp] noncomputable def k1_riders_in (env : Env) : Rs Out := (sSeq (sRet (eV 1)) sNil) env
noncomputable def b_riders_in : Env → Rs Out := (sSeq (sSet 1 (eLst aNil)) (sSeq (sSet 2 (eC (.int 0))) (sSeq (sWhile (eT (eOp oGt (eV 0) (eC (.int 0)))) lp1_riders_in) k1_riders_in)))
noncomputable def d_riders_in : List PV → Rs PV := runB 0 3 b_riders_in
noncomputable def b_rider_count : Env → Rs Out := (sSeq (sRet (eCall oLen (aCons (eFun d_riders_in (aCons (eOp oSub (eCall oLen (aCons (eV 0) aNil)) (eC (.int 1))) aNil)) aNil))) sNil)
noncomputable def d_rider_count : List PV → Rs PV := runB 0 1 b_rider_count
noncomputable def b_law_has : Env → Rs Out := (sSeq (sRet (eOp oEq (eOp oMod (eOp oDiv (eV 0) (eOp oIx (eLst (aCons (eC (.int 1)) (aCons (eC (.int 2)) (aCons (eC (.int 4)) (aCons (eC (.int 8)) (aCons (eC (.int 16)) (aCons (eC (.int 32)) aNil))))))) (eV 1))) (eC (.int 2))) (eC (.int 1)))) sNil)
noncomputable def d_law_has : List PV → Rs PV := runB 0 2 b_law_has
noncomputable def b_law_size : Env → Rs Out := (sSeq (sRet (eOp oIx (eLst (aCons (eC (.int 1)) (aCons (eC (.int 2)) (aCons (eC (.int 4)) (aCons (eC (.int 8)) (aCons (eC (.int 16)) (aCons (eC (.int 32)) (aCons (eC (.int 64)) aNil)))))))) (eV 0))) sNil)
noncomputable def d_law_size : List PV → Rs PV := runB 0 1 b_law_size
noncomputable def b_law_is_whole : Env → Rs Out := (sSeq (sRet (eAnd (eIsi "int" (eV 0)) (eNot (eIsi "bool" (eV 0))))) sNil)
noncomputable def d_law_is_whole : List PV → Rs PV := runB 0 1 b_law_is_whole
noncomputable def b_law_is_fraction : Env → Rs Out := (sSeq (sIf (tOrD (tNotD (eTru (eIsi "tuple" (eV 0)))) (eT (eOp oNe (eCall oLen (aCons (eV 0) aNil)) (eC (.int 2))))) (sSeq (sRet (eC (.bl false))) sNil) sNil) (sSeq (sIf (tOrD (tNotD (eTru (eFun d_law_is_whole (aCons (eOp oIx (eV 0) (eC (.int 0))) aNil)))) (tNotD (eTru (eFun d_law_is_whole (aCons (eOp oIx (eV 0) (eC (.int 1))) aNil))))) (sSeq (sRet (eC (.bl false))) sNil) sNil) (sSeq (sRet (eAnd (eOp oGe (eOp oIx (eV 0) (eC (.int 1))) (eC (.int 1))) (eOp oEq (eFun d_law_common (aCons (eOp oIx (eV 0) (eC (.int 0))) (aCons (eOp oIx (eV 0) (eC (.int 1))) aNil))) (eC (.int 1))))) sNil)))
noncomputable def d_law_is_fraction : List PV → Rs PV := runB 0 1 b_law_is_fraction
noncomputable def lp1_law_is_fraction_b : Env → Rs Out := (sSeq (sIf (tOrD (tNotD (eTru (eIsi "int" (eV 1)))) (eTru (eIsi "bool" (eV 1)))) (sSeq (sRet (eC (.bl false))) sNil) sNil) sNil)
@[simp] noncomputable def k1_law_is_fraction_b (env : Env) : Rs Out := (sSeq (sRet (eAnd (eOp oGe (eOp oIx (eV 0) (eC (.int 1))) (eC (.int 1))) (eOp oEq (eFun d_law_common (aCons (eOp oIx (eV 0) (eC (.int 0))) (aCons (eOp oIx (eV 0) (eC (.int 1))) aNil))) (eC (.int 1))))) sNil) env
noncomputable def b_law_is_fraction_b : Env → Rs Out := (sSeq (sIf (tOrD (tNotD (eTru (eIsi "tuple" (eV 0)))) (eT (eOp oNe (eCall oLen (aCons (eV 0) aNil)) (eC (.int 2))))) (sSeq (sRet (eC (.bl false))) sNil) sNil) (sSeq (sFor (iE (eV 0)) (.n 1) lp1_law_is_fraction_b) k1_law_is_fraction_b))
noncomputable def d_law_is_fraction_b : List PV → Rs PV := runB 0 2 b_law_is_fraction_b
noncomputable def lp1_law_power : Env → Rs Out := (sSeq (sSet 1 (eOp oMul (eC (.int 2)) (eV 1))) sNil)
@[simp] noncomputable def k1_law_power (env : Env) : Rs Out := (sSeq (sRet (eV 1)) sNil) env
noncomputable def b_law_power : Env → Rs Out := (sSeq (sSet 1 (eC (.int 1))) (sSeq (sFor (iR (aCons (eV 0) aNil)) (.n 2) lp1_law_power) k1_law_power))
noncomputable def d_law_power : List PV → Rs PV := runB 0 3 b_law_power
noncomputable def lp1_law_power_b : Env → Rs Out := (sSeq (sSet 1 (eOp oMul (eC (.int 2)) (eV 1))) sNil)
@[simp] noncomputable def k1_law_power_b (env : Env) : Rs Out := (sSeq (sRet (eV 1)) sNil) env
noncomputable def b_law_power_b : Env → Rs Out := (sSeq (sSet 1 (eC (.int 1))) (sSeq (sFor (iR (aCons (eV 0) aNil)) (.n 2) lp1_law_power_b) k1_law_power_b))
noncomputable def d_law_power_b : List PV → Rs PV := runB 0 3 b_law_power_b
end Pw.Lib

namespace Pw
open PySem L2
/-! ### loops and comprehensions, plainly -/
theorem forL_inv {tg : Tg} {fb : Env → Rs Out} : ∀ {xs : List PV} {env : Env} (I : Nat → Env → Prop) (h0 : I 0 env) (hs : ∀ k x e, xs[k]? = some x → I k e → ∃ e1, tgS tg x e = .ok e1 ∧ ∃ e2, fb e1 = .ok (.nx e2) ∧ I (k + 1) e2), ∃ e, forL tg fb env xs = .ok (.nx e) ∧ I xs.length e
  | [], env, I, h0, _ => ⟨env, rfl, h0⟩
  | x :: xs, env, I, h0, hs => by
    obtain ⟨e1, h1, e2, h2, h3⟩ := hs 0 x env rfl h0
    obtain ⟨e, h4, h5⟩ := forL_inv (xs := xs) (env := e2) (fun k => I (k + 1)) h3 fun k y e' hk hI => hs (k + 1) y e' (by simpa using hk) hI
    refine ⟨e, ?_, by simpa using h5⟩
    rw [forL, h1, Rs.noexc_ok, Rs.bind_ok, h2, Rs.bind_ok]; exact h4
theorem forL_ret {tg : Tg} {fb : Env → Rs Out} : ∀ {xs : List PV} {env : Env} (I : Nat → Env → Prop) (R : PV → Prop) (h0 : I 0 env) (hs : ∀ k x e, xs[k]? = some x → I k e → ∃ e1, tgS tg x e = .ok e1 ∧ ((∃ e2, fb e1 = .ok (.nx e2) ∧ I (k + 1) e2) ∨ ∃ y, fb e1 = .ok (.rt y) ∧ R y)),
    (∃ e, forL tg fb env xs = .ok (.nx e) ∧ I xs.length e) ∨ ∃ y, forL tg fb env xs = .ok (.rt y) ∧ R y
  | [], env, I, R, h0, _ => .inl ⟨env, rfl, h0⟩
  | x :: xs, env, I, R, h0, hs => by
    obtain ⟨e1, h1, ⟨e2, h2, h3⟩ | ⟨y, h2, h3⟩⟩ := hs 0 x env rfl h0
    · rcases forL_ret (xs := xs) (env := e2) (fun k => I (k + 1)) R h3 fun k y e' hk hI => hs (k + 1) y e' (by simpa using hk) hI with ⟨e, h4, h5⟩ | ⟨y, h4, h5⟩
      · refine .inl ⟨e, ?_, by simpa using h5⟩
        rw [forL, h1, Rs.noexc_ok, Rs.bind_ok, h2, Rs.bind_ok]; exact h4
      · refine .inr ⟨y, ?_, h5⟩
        rw [forL, h1, Rs.noexc_ok, Rs.bind_ok, h2, Rs.bind_ok]; exact h4
    · refine .inr ⟨y, ?_, h3⟩
      rw [forL, h1, Rs.noexc_ok, Rs.bind_ok, h2, Rs.bind_ok]
theorem compL_map {α : Type} {g : PV → Env → Rs Env} {fe : Env → Rs PV} {env : Env} (enc : α → PV) (f : α → PV) : ∀ (l : List α), (∀ x ∈ l, ∃ e1, g (enc x) env = .ok e1 ∧ fe e1 = .ok (f x)) → compL g tYesD fe env (l.map enc) = .ok (l.map f)
  | [], _ => rfl
  | x :: l, h => by
    obtain ⟨e1, h1, h2⟩ := h x List.mem_cons_self
    rw [List.map_cons, compL, h1, Rs.bind_ok, tYesD, Rs.bind_ok, if_pos rfl, h2, Rs.bind_ok, compL_map enc f l fun y hy => h y (List.mem_cons_of_mem _ hy)]; rfl
theorem compL_filter {α : Type} {g : PV → Env → Rs Env} {tt : Env → Rs Bool} {fe : Env → Rs PV} {env : Env} (enc : α → PV) (p : α → Bool) (f : α → PV) : ∀ (l : List α), (∀ x ∈ l, ∃ e1, g (enc x) env = .ok e1 ∧ tt e1 = .ok (p x) ∧ (p x = true → fe e1 = .ok (f x))) → compL g tt fe env (l.map enc) = .ok ((l.filter p).map f)
  | [], _ => rfl
  | x :: l, h => by
    obtain ⟨e1, h1, h2, h3⟩ := h x List.mem_cons_self
    have ih := compL_filter (g := g) (tt := tt) (fe := fe) (env := env) enc p f l fun y hy => h y (List.mem_cons_of_mem _ hy)
    rw [List.map_cons, compL, h1, Rs.bind_ok, h2, Rs.bind_ok]
    cases hp : p x with
    | true => rw [if_pos rfl, h3 hp, Rs.bind_ok, ih, List.filter_cons_of_pos hp]; rfl
    | false => rw [if_neg Bool.false_ne_true, ih, List.filter_cons_of_neg (by rw [hp]; exact Bool.false_ne_true)]
theorem rng_map (n : Nat) : rng 0 (n : Int) = (List.range n).map fun k : Nat => PV.int (k : Int) := by
  unfold rng
  rw [Int.sub_zero, Int.toNat_natCast]
  simp
theorem rng_get {lo hi : Int} {k : Nat} {x : PV} (h : (rng lo hi)[k]? = some x) : x = .int (lo + k) ∧ lo + k < hi := by
  unfold rng at h
  rw [List.getElem?_map] at h
  obtain ⟨j, h1, h2⟩ := Option.map_eq_some_iff.mp h
  obtain ⟨h3, h4⟩ := List.getElem?_eq_some_iff.mp h1
  rw [List.getElem_range] at h4
  rw [List.length_range] at h3
  subst h4
  exact ⟨h2.symm, by omega⟩
/-! ### sizes -/
theorem log2_le {n s : Nat} (h : n < 2 ^ s) : n.log2 ≤ s := by
  by_cases h0 : n = 0
  · subst h0; simp
  · exact Nat.le_of_lt ((Nat.log2_lt h0).mpr h)
theorem mulOk_of {i j : Int} {s t : Nat} (hi : i.natAbs < 2 ^ s) (hj : j.natAbs < 2 ^ t) (h : s + t < 100000000) : mulOk i j = true := by
  have a := log2_le hi
  have b := log2_le hj
  unfold mulOk
  exact decide_eq_true (by omega)
theorem natAbs_mul_lt {i j : Int} {s t : Nat} (hi : i.natAbs < 2 ^ s) (hj : j.natAbs < 2 ^ t) : (i * j).natAbs < 2 ^ (s + t) := by
  rw [Int.natAbs_mul, Nat.pow_add]
  exact Nat.mul_lt_mul'' hi hj
theorem natAbs_add_lt {i j : Int} {s : Nat} (hi : i.natAbs < 2 ^ s) (hj : j.natAbs < 2 ^ s) : (i + j).natAbs < 2 ^ (s + 1) := by
  rw [Nat.pow_succ]; omega
theorem natAbs_sub_lt {i j : Int} {s : Nat} (hi : i.natAbs < 2 ^ s) (hj : j.natAbs < 2 ^ s) : (i - j).natAbs < 2 ^ (s + 1) := by
  rw [Nat.pow_succ]; omega
theorem lt_pow_le {n s t : Nat} (h : n < 2 ^ s) (l : s ≤ t) : n < 2 ^ t := Nat.lt_of_lt_of_le h (Nat.pow_le_pow_right (by omega) l)
/-! ### fractions -/
def fr (q : Rat) : PV := .tup [.int q.num, .int (q.den : Int)]
/-- top and bottom below 2 ^ s -/
def Sz (s : Nat) (q : Rat) : Prop := q.num.natAbs < 2 ^ s ∧ q.den < 2 ^ s
theorem Sz.le {s t : Nat} {q : Rat} (h : Sz s q) (l : s ≤ t) : Sz t q := ⟨lt_pow_le h.1 l, lt_pow_le h.2 l⟩
theorem fr_inj {p q : Rat} (h : fr p = fr q) : p = q := by
  unfold fr at h
  injection h with h
  injection h with h1 h2
  injection h2 with h2 _
  injection h1 with h1
  injection h2 with h2
  exact Rat.ext h1 (by omega)
theorem divInt_sz {t b : Int} {s : Nat} (ht : t.natAbs < 2 ^ s) (hb : b.natAbs < 2 ^ s) (h0 : b ≠ 0) : Sz s (Rat.divInt t b) := by
  constructor
  · rw [Rat.num_divInt]
    have h1 : (b.sign * t).natAbs = t.natAbs := by
      rw [Int.natAbs_mul]
      have : b.sign.natAbs = 1 := by rcases Int.lt_trichotomy b 0 with h | h | h <;> simp_all [Int.natAbs_sign]
      rw [this, Nat.one_mul]
    refine Nat.lt_of_le_of_lt ?_ ht
    rw [← h1]
    exact Int.natAbs_ediv_le_natAbs _ _
  · rw [Rat.den_divInt, if_neg h0]
    exact Nat.lt_of_le_of_lt (Nat.div_le_self _ _) hb
theorem e_fraction {t b : Int} {s : Nat} (ht : t.natAbs < 2 ^ s) (hb : b.natAbs < 2 ^ s) (h0 : b ≠ 0) (hs : s < 9000) : Lib.d_fraction [.int t, .int b] = .ok (fr (Rat.divInt t b)) := by
  have gpos : 0 < Nat.gcd t.natAbs b.natAbs := Nat.gcd_pos_of_pos_right _ (Int.natAbs_pos.mpr h0)
  have glt : (Nat.gcd t.natAbs b.natAbs).log2 < 9000 := by
    have : Nat.gcd t.natAbs b.natAbs < 2 ^ s := Nat.lt_of_le_of_lt (Nat.gcd_le_right _ (Int.natAbs_pos.mpr h0)) hb
    have := log2_le this
    omega
  have num : ∀ t' : Int, t' = b.sign * t → (Rat.divInt t b).num = t' / (Nat.gcd t.natAbs b.natAbs : Nat) := fun t' e => by
    rw [Rat.num_divInt, e]
    congr 1
    rw [Int.gcd, Nat.gcd_comm]
  have den : ∀ b' : Int, 0 < b' → b'.natAbs = b.natAbs → ((Rat.divInt t b).den : Int) = b' / (Nat.gcd t.natAbs b.natAbs : Nat) := fun b' hp e => by
    rw [Rat.den_divInt, if_neg h0, Int.gcd, Nat.gcd_comm]
    rw [Int.natCast_ediv, ← e, Int.natAbs_of_nonneg (by omega)]
  by_cases hneg : b < 0
  · have hbs : b.sign = -1 := Int.sign_eq_neg_one_of_neg hneg
    have e1 : (-t).natAbs = t.natAbs := Int.natAbs_neg t
    have e2 : (-b).natAbs = b.natAbs := Int.natAbs_neg b
    have c1 : (0 : Int) < ((Nat.gcd t.natAbs b.natAbs : Nat) : Int) := by omega
    simp [Lib.d_fraction, Lib.b_fraction, hneg, h0, glt, fr, e1, e2]
    exact ⟨(num (-t) (by rw [hbs]; omega)).symm, (den (-b) (by omega) e2).symm⟩
  · have hbs : b.sign = 1 := Int.sign_eq_one_of_pos (by omega)
    have c1 : (0 : Int) < ((Nat.gcd t.natAbs b.natAbs : Nat) : Int) := by omega
    simp [Lib.d_fraction, Lib.b_fraction, hneg, h0, glt, fr]
    exact ⟨(num t (by rw [hbs]; omega)).symm, (den b (by omega) rfl).symm⟩
theorem e_whole (n : Int) : Lib.d_whole [.int n] = .ok (fr (n : Rat)) := by
  simp [Lib.d_whole, Lib.b_whole, fr]
section
variable {a b : Rat} {s t u : Nat}
theorem den_pos_int (a : Rat) : (0 : Int) < (a.den : Int) := by have := a.den_pos; omega
theorem raw_add : Rat.divInt (a.num * b.den + b.num * a.den) (a.den * b.den) = a + b := by
  rw [Rat.add_def', ← Rat.divInt_ofNat]; push_cast; rfl
theorem raw_sub : Rat.divInt (a.num * b.den - b.num * a.den) (a.den * b.den) = a - b := by
  rw [Rat.sub_def', ← Rat.divInt_ofNat]; push_cast; rfl
theorem raw_mul : Rat.divInt (a.num * b.num) (a.den * b.den) = a * b := by
  rw [Rat.mul_def', ← Rat.divInt_ofNat]; push_cast; rfl
theorem Sz.parts (ha : Sz s a) (hb : Sz t b) : (a.num * (b.den : Int)).natAbs < 2 ^ (s + t) ∧ (b.num * (a.den : Int)).natAbs < 2 ^ (s + t) ∧ ((a.den : Int) * (b.den : Int)).natAbs < 2 ^ (s + t) ∧ (a.num * b.num).natAbs < 2 ^ (s + t) := by
  have da : (a.den : Int).natAbs < 2 ^ s := by rw [Int.natAbs_natCast]; exact ha.2
  have db : (b.den : Int).natAbs < 2 ^ t := by rw [Int.natAbs_natCast]; exact hb.2
  refine ⟨natAbs_mul_lt ha.1 db, ?_, natAbs_mul_lt da db, natAbs_mul_lt ha.1 hb.1⟩
  have := natAbs_mul_lt hb.1 da
  rwa [Nat.add_comm] at this
theorem den_mul_ne : (a.den : Int) * (b.den : Int) ≠ 0 := by
  have h1 := den_pos_int a
  have h2 := den_pos_int b
  have := Int.mul_pos h1 h2
  omega
theorem Sz.add (ha : Sz s a) (hb : Sz t b) : Sz (s + t + 1) (a + b) := by
  obtain ⟨h1, h2, h3, _⟩ := ha.parts hb
  rw [← raw_add]
  exact divInt_sz (natAbs_add_lt h1 h2) (lt_pow_le h3 (by omega)) den_mul_ne
theorem Sz.sub (ha : Sz s a) (hb : Sz t b) : Sz (s + t + 1) (a - b) := by
  obtain ⟨h1, h2, h3, _⟩ := ha.parts hb
  rw [← raw_sub]
  exact divInt_sz (natAbs_sub_lt h1 h2) (lt_pow_le h3 (by omega)) den_mul_ne
theorem Sz.mul (ha : Sz s a) (hb : Sz t b) : Sz (s + t) (a * b) := by
  obtain ⟨_, _, h3, h4⟩ := ha.parts hb
  rw [← raw_mul]
  exact divInt_sz h4 h3 den_mul_ne
theorem Sz.int {n : Int} (h : n.natAbs < 2 ^ s) (h1 : 1 ≤ s) : Sz s (n : Rat) := ⟨h, by rw [Rat.den_intCast]; exact Nat.one_lt_two_pow (by omega)⟩
theorem Sz.mulOk (ha : Sz s a) (hb : Sz t b) (h : s + t < 100000000) : Pw.mulOk a.num (b.den : Int) = true ∧ Pw.mulOk b.num (a.den : Int) = true ∧ Pw.mulOk (a.den : Int) (b.den : Int) = true ∧ Pw.mulOk a.num b.num = true := by
  have da : (a.den : Int).natAbs < 2 ^ s := by rw [Int.natAbs_natCast]; exact ha.2
  have db : (b.den : Int).natAbs < 2 ^ t := by rw [Int.natAbs_natCast]; exact hb.2
  exact ⟨mulOk_of ha.1 db h, mulOk_of hb.1 da (by omega), mulOk_of da db h, mulOk_of ha.1 hb.1 h⟩
@[simp] theorem atI_0 {α : Type} (x : α) (xs : List α) : atI (x :: xs) 0 = some x := by simp [atI, ixN]
@[simp] theorem atI_1 {α : Type} (x y : α) (xs : List α) : atI (x :: y :: xs) 1 = some y := by
  simp [atI, ixN, show (1 : Int) < (xs.length : Int) + 1 + 1 by omega]
theorem e_plus (ha : Sz s a) (hb : Sz t b) (h : s + t < 8000) : Lib.d_plus [fr a, fr b] = .ok (fr (a + b)) := by
  obtain ⟨m1, m2, m3, _⟩ := ha.mulOk hb (by omega)
  obtain ⟨h1, h2, h3, _⟩ := ha.parts hb
  have := e_fraction (natAbs_add_lt h1 h2) (lt_pow_le h3 (Nat.le_succ _)) den_mul_ne (by omega)
  rw [raw_add] at this
  simp [Lib.d_plus, Lib.b_plus, fr, m1, m2, m3]
  rw [this]; rfl
theorem e_minus (ha : Sz s a) (hb : Sz t b) (h : s + t < 8000) : Lib.d_minus [fr a, fr b] = .ok (fr (a - b)) := by
  obtain ⟨m1, m2, m3, _⟩ := ha.mulOk hb (by omega)
  obtain ⟨h1, h2, h3, _⟩ := ha.parts hb
  have := e_fraction (natAbs_sub_lt h1 h2) (lt_pow_le h3 (Nat.le_succ _)) den_mul_ne (by omega)
  rw [raw_sub] at this
  simp [Lib.d_minus, Lib.b_minus, fr, m1, m2, m3]
  rw [this]; rfl
theorem e_times (ha : Sz s a) (hb : Sz t b) (h : s + t < 8000) : Lib.d_times [fr a, fr b] = .ok (fr (a * b)) := by
  obtain ⟨m1, m2, m3, m4⟩ := ha.mulOk hb (by omega)
  obtain ⟨h1, h2, h3, h4⟩ := ha.parts hb
  have := e_fraction h4 h3 den_mul_ne (by omega)
  rw [raw_mul] at this
  simp [Lib.d_times, Lib.b_times, fr, m3, m4]
  rw [this]; rfl
theorem e_is_less (ha : Sz s a) (hb : Sz t b) (h : s + t < 8000) : Lib.d_is_less [fr a, fr b] = .ok (.bl (decide (a < b))) := by
  obtain ⟨m1, m2, m3, m4⟩ := ha.mulOk hb (by omega)
  simp [Lib.d_is_less, Lib.b_is_less, fr, m1, m2, Rat.lt_iff]
theorem e_greater (ha : Sz s a) (hb : Sz t b) (h : s + t < 8000) : Lib.d_greater [fr a, fr b] = .ok (fr (max a b)) := by
  have := e_is_less ha hb h
  unfold fr at this
  rw [Rat.max_def]
  simp [Lib.d_greater, Lib.b_greater, fr, this]
  by_cases hh : a < b
  · simp [hh, Rat.le_of_lt hh]
  · by_cases h2 : a ≤ b
    · have : a = b := Rat.le_antisymm h2 (Rat.not_lt.mp hh)
      subst this; simp [hh]
    · simp [hh, h2]
end
end Pw

namespace Pw
open PySem L2
theorem sum_take_succ {qs : List Rat} {k : Nat} {q : Rat} (h : qs[k]? = some q) : (qs.take (k + 1)).sum = (qs.take k).sum + q := by
  rw [List.take_add_one, h]
  simp [List.sum_append, Rat.add_zero]
theorem sz_take {s : Nat} {qs : List Rat} (h : ∀ q ∈ qs, Sz s q) : ∀ k : Nat, k ≤ qs.length → Sz (1 + k * (s + 1)) (qs.take k).sum
  | 0, _ => by simp [Sz]
  | k + 1, hk => by
    have e : qs[k]? = some qs[k] := by simp [show k < qs.length by omega]
    rw [sum_take_succ e]
    have := (sz_take h k (by omega)).add (h qs[k] (List.getElem_mem _))
    exact this.le (by rw [Nat.add_mul]; omega)
/-- summing fractions, by a module's own functions: the shape of the loop's body is given -/
theorem e_sum {fb : Env → Rs Out} {n : Nat} {v : PV} {qs : List Rat} {s : Nat} (h : ∀ q ∈ qs, Sz s q) (hz : qs.length * (s + 1) + s < 7990)
    (hp : ∀ {a b : Rat} {y : Option PV}, Sz (1 + n * (s + 1)) a → Sz s b → fb [some v, some (fr a), some (fr b)] = .ok (.nx [some v, some (fr (a + b)), some (fr b)])) (hn : qs.length ≤ n + 1) (x0 : Option PV) :
    ∃ y, forL (.n 2) fb [some v, some (fr 0), x0] (qs.map fr) = .ok (.nx [some v, some (fr qs.sum), y]) := by
  obtain ⟨e, h1, h2⟩ := forL_inv (tg := .n 2) (fb := fb) (xs := qs.map fr) (env := [some v, some (fr 0), x0])
    (fun k e => ∃ y, e = [some v, some (fr (qs.take k).sum), y]) ⟨x0, by simp⟩ fun k x e hx ⟨y, he⟩ => by
      rw [List.getElem?_map] at hx
      obtain ⟨q, hq, rfl⟩ := Option.map_eq_some_iff.mp hx
      subst he
      have hk : k < qs.length := (List.getElem?_eq_some_iff.mp hq).1
      have hb : k * (s + 1) ≤ n * (s + 1) := Nat.mul_le_mul_right _ (by omega)
      have := hp (y := none) ((sz_take h k (by omega)).le (by omega)) (h q (List.mem_of_getElem? hq))
      rw [← sum_take_succ hq] at this
      exact ⟨_, rfl, _, this, _, rfl⟩
  obtain ⟨y, rfl⟩ := h2
  rw [List.length_map, List.take_length] at h1
  exact ⟨y, h1⟩
theorem fr_zero : fr 0 = .tup [.int 0, .int 1] := rfl
theorem e_sum_of {qs : List Rat} {s : Nat} (h : ∀ q ∈ qs, Sz s q) (hz : qs.length * (s + 1) + s < 7990) : Lib.d_sum_of [.lst (qs.map fr)] = .ok (fr qs.sum) := by
  obtain ⟨y, hy⟩ := e_sum (fb := Lib.lp1_sum_of) (n := qs.length) (v := .lst (qs.map fr)) h hz (fun ha hb => by
    simp [Lib.lp1_sum_of, e_plus ha hb (by omega)]) (by omega) none
  rw [fr_zero] at hy
  simp [Lib.d_sum_of, Lib.b_sum_of, Lib.c_ZERO, hy]

/-! ### drawn numbers -/
theorem bits_of {z : Int} {B : Nat} (h : Builtin.Int.intBits z ≤ B) : z.natAbs < 2 ^ B := by
  unfold Builtin.Int.intBits at h
  split at h
  · rename_i h0
    have : z.natAbs = 0 := by simpa using h0
    rw [this]; exact Nat.two_pow_pos _
  · rename_i h0
    have h0 : z.natAbs ≠ 0 := by simpa using h0
    exact Nat.lt_of_lt_of_le Nat.lt_log2_self (Nat.pow_le_pow_right (by omega) h)
theorem small_lt {i : Int} {s : Nat} (h : i.natAbs < s) (hs : s ≤ 2 ^ 64) : i.natAbs < 2 ^ 64 := Nat.lt_of_lt_of_le h hs
theorem mulOk_small {i j : Int} (hi : i.natAbs < 2 ^ 64) (hj : j.natAbs < 2 ^ 64) : mulOk i j = true := mulOk_of hi hj (by omega)
/-- the cell at a place -/
def cellAt (ns : List Int) (at_ : Nat) : Int := if at_ < ns.length then ns.getD at_ 0 else 0
theorem atI_getD {ns : List Int} {k : Nat} (h : k < ns.length) : atI ns (k : Int) = some (ns.getD k 0) := by
  rw [List.getD_eq_getElem?_getD]
  have e : ns[k]? = some ns[k] := by simp [h]
  rw [atI_nat e, e]; rfl
theorem cell_bits {ns : List Int} {B : Nat} (hb : ∀ z ∈ ns, z.natAbs < 2 ^ B) (k : Nat) : (cellAt ns k).natAbs < 2 ^ B := by
  unfold cellAt
  split
  · rename_i h
    rw [List.getD_eq_getElem?_getD]
    have e : ns[k]? = some ns[k] := by simp [h]
    rw [e]; exact hb _ (List.getElem_mem _)
  · exact Nat.two_pow_pos _
/-- n numbers from 0 to m - 1 -/
def Drawn (n m : Nat) (l : List Int) : Prop := l.length = n ∧ ∀ x ∈ l, 0 ≤ x ∧ x < m
theorem l_draws_b {ns : List Int} {B : Nat} (hB : B ≤ 1048576) {at_ n : Nat} (ha : at_ < 2 ^ 20) (hn : n < 2 ^ 20) {c : Int} (hc : c.natAbs < 2 ^ B) (bd : Bool) :
    ∃ (l : List Int) (c' : Int) (x6 x7 : Option PV), forL (.n 6) Lib.lp1_law_draws_b [some (.ro ns), some (.int at_), some (.int n), some (.int c), some (.bl bd), some (.lst []), none, none] (rng 0 n) =
      .ok (.nx [some (.ro ns), some (.int at_), some (.int n), some (.int c'), some (.bl bd), some (.lst (l.map .int)), x6, x7]) ∧ Drawn n 5040 l := by
  obtain ⟨e, h1, c', l, x6, x7, h2, _, h3⟩ := forL_inv (tg := .n 6) (fb := Lib.lp1_law_draws_b) (xs := rng 0 n) (env := [some (.ro ns), some (.int at_), some (.int n), some (.int c), some (.bl bd), some (.lst []), none, none])
    (fun k e => ∃ (c : Int) (l : List Int) (x6 x7 : Option PV), e = [some (.ro ns), some (.int at_), some (.int n), some (.int c), some (.bl bd), some (.lst (l.map .int)), x6, x7] ∧ c.natAbs < 2 ^ B ∧ Drawn k 5040 l)
    ⟨c, [], none, none, rfl, hc, rfl, by simp⟩ fun k x e hx ⟨c, l, x6, x7, he, hc, hl, hr⟩ => by
      obtain ⟨hx, hk⟩ := rng_get hx
      subst hx he
      refine ⟨_, rfl, ?_⟩
      have hk : k < 2 ^ 20 := by omega
      have hll : l.length < 16777216 := by omega
      cases bd with
      | true =>
        refine ⟨[some (.ro ns), some (.int at_), some (.int n), some (.int (c / 5040)), some (.bl true), some (.lst ((l ++ [c % 5040]).map .int)), some (.int (0 + k)), x7], by simp [Lib.lp1_law_draws_b, hll], c / 5040, l ++ [c % 5040], _, _, rfl, Nat.lt_of_le_of_lt (Int.natAbs_ediv_le_natAbs _ _) hc, by simp [hl], fun y hy => ?_⟩
        rcases List.mem_append.mp hy with hy | hy
        · exact hr y hy
        · simp at hy; omega
      | false =>
        have m1 : mulOk c 48271 = true := mulOk_of hc (show (48271 : Int).natAbs < 2 ^ 16 by decide) (by omega)
        have m2 : mulOk 71 (at_ : Int) = true := mulOk_small (by decide) (by omega)
        have m3 : mulOk (k + 71 * (at_ : Int)) 69621 = true := mulOk_small (by omega) (by decide)
        have r1 : ∀ y : Int, 0 ≤ y % 2147483647 ∧ y % 2147483647 < 2147483647 := fun y => by omega
        generalize hy1 : (c * 48271 + (k + 71 * (at_ : Int)) * 69621 + 29) % 2147483647 = y1
        have b1 : 0 ≤ y1 ∧ y1 < 2147483647 := by rw [← hy1]; exact r1 _
        have m4 : mulOk y1 y1 = true := mulOk_small (by omega) (by omega)
        have m5 : mulOk y1 40692 = true := mulOk_small (by omega) (by decide)
        have m6 : mulOk (k : Int) 7907 = true := mulOk_small (by omega) (by decide)
        refine ⟨[some (.ro ns), some (.int at_), some (.int n), some (.int c), some (.bl false), some (.lst ((l ++ [((y1 * y1 + y1 * 40692 + k * 7907) % 2147483399 / 128) % 5040]).map .int)), some (.int (0 + k)), some (.int ((y1 * y1 + y1 * 40692 + k * 7907) % 2147483399))],
          by simp [Lib.lp1_law_draws_b, hll, m1, m2, m3, hy1, m4, m5, m6], c, _, _, _, rfl, hc, by simp [hl], fun y hy => ?_⟩
        rcases List.mem_append.mp hy with hy | hy
        · exact hr y hy
        · simp at hy; omega
  rw [rng_len, Int.sub_zero, Int.toNat_natCast] at h3
  exact ⟨l, c', x6, x7, by rw [h1, h2], h3⟩
theorem e_draws_b {ns : List Int} {B : Nat} (hb : ∀ z ∈ ns, z.natAbs < 2 ^ B) (hB : B ≤ 1048576) (at_ n : Nat) (ha : at_ < 2 ^ 20 := by decide) (hn : n < 2 ^ 20 := by decide) : ∃ l, Lib.d_law_draws_b [.ro ns, .int at_, .int n] = .ok (.lst (l.map .int)) ∧ Drawn n 5040 l := by
  have hc := cell_bits hb at_
  have rk : n < 4611686018427387904 := by omega
  unfold cellAt at hc
  by_cases h : at_ < ns.length
  · rw [if_pos h] at hc
    have ea := atI_getD h
    generalize ns.getD at_ 0 = z at hc ea
    obtain ⟨l, c', x6, x7, h1, h3⟩ := l_draws_b (ns := ns) hB ha hn hc (decide (1000000000000000000 ≤ z))
    refine ⟨l, ?_, h3⟩
    simp [Lib.d_law_draws_b, Lib.b_law_draws_b, h, ea, rk, h1]
  · rw [if_neg h] at hc
    obtain ⟨l, c', x6, x7, h1, h3⟩ := l_draws_b (ns := ns) hB ha hn hc false
    refine ⟨l, ?_, h3⟩
    simp [Lib.d_law_draws_b, Lib.b_law_draws_b, h, rk, h1]
end Pw

namespace Pw
open PySem L2
/-! ### places -/
@[simp] theorem ixN_nat (n k : Nat) : ixN n (k : Int) = if k < n then some k else none := by
  unfold ixN
  rw [if_pos (by omega)]
  by_cases h : k < n
  · rw [if_pos (by omega), if_pos h, Int.toNat_natCast]
  · rw [if_neg (by omega), if_neg h]
@[simp] theorem atI_natCast {α : Type} (xs : List α) (k : Nat) : atI xs (k : Int) = xs[k]? := by
  unfold atI
  rw [ixN_nat]
  by_cases h : k < xs.length
  · rw [if_pos h]; rfl
  · rw [if_neg h]; exact (List.getElem?_eq_none (by omega)).symm
/-- the list of a function's first values -/
def tab {α : Type} (n : Nat) (f : Nat → α) : List α := (List.range n).map f
@[simp] theorem tab_length {α : Type} (n : Nat) (f : Nat → α) : (tab n f).length = n := by simp [tab]
@[simp] theorem tab_get {α : Type} (n : Nat) (f : Nat → α) (k : Nat) : (tab n f)[k]? = if k < n then some (f k) else none := by
  unfold tab
  rw [List.getElem?_map]
  by_cases h : k < n
  · rw [if_pos h, List.getElem?_range h]; rfl
  · rw [if_neg h, List.getElem?_eq_none (by simp; omega)]; rfl
@[simp] theorem tab_getElem {α : Type} (n : Nat) (f : Nat → α) (k : Nat) (h : k < (tab n f).length) : (tab n f)[k] = f k := by
  have e := tab_get n f k
  rw [List.getElem?_eq_getElem h, if_pos (by rw [tab_length] at h; exact h)] at e
  exact Option.some.inj e
theorem tab_get' {α : Type} {n : Nat} {f : Nat → α} {k : Nat} (h : k < n) : (tab n f)[k]? = some (f k) := by rw [tab_get, if_pos h]
theorem tab_ext {α : Type} {n : Nat} {f g : Nat → α} (h : ∀ k, k < n → f k = g k) : tab n f = tab n g := by
  apply List.ext_getElem?
  intro k
  rw [tab_get, tab_get]
  by_cases hk : k < n
  · rw [if_pos hk, if_pos hk, h k hk]
  · rw [if_neg hk, if_neg hk]
theorem tab_succ {α : Type} (n : Nat) (f : Nat → α) : tab (n + 1) f = tab n f ++ [f n] := by simp [tab, List.range_succ]
theorem tab_put {α : Type} (n : Nat) (f : Nat → α) (v : α) : tab n f ++ [v] = tab (n + 1) fun j => if j = n then v else f j := by
  rw [tab_succ, if_pos rfl]
  congr 1
  exact tab_ext fun k hk => by rw [if_neg (by omega)]
theorem tab_set {α : Type} (n : Nat) (f : Nat → α) (k : Nat) (v : α) : (tab n f).set k v = tab n fun j => if j = k then v else f j := by
  apply List.ext_getElem?
  intro j
  rw [List.getElem?_set, tab_get, tab_get, tab_length]
  by_cases hj : j < n
  · by_cases e : k = j
    · subst e; simp [hj]
    · rw [if_neg e, if_pos hj, if_pos hj, if_neg (fun h => e h.symm)]
  · by_cases e : k = j
    · subst e; simp [hj]
    · rw [if_neg e, if_neg hj, if_neg hj]
theorem tab_map {α β : Type} (n : Nat) (f : Nat → α) (g : α → β) : (tab n f).map g = tab n fun k => g (f k) := by simp [tab, Function.comp_def]
theorem tab_of {α : Type} [Inhabited α] (xs : List α) : xs = tab xs.length fun k => xs.getD k default := by
  apply List.ext_getElem?
  intro k
  rw [tab_get]
  by_cases h : k < xs.length
  · rw [if_pos h, List.getD_eq_getElem?_getD, List.getElem?_eq_getElem h]; rfl
  · rw [if_neg h, List.getElem?_eq_none (by omega)]
theorem map_tab {α β : Type} [Inhabited α] (xs : List α) (g : α → β) : xs.map g = tab xs.length fun k => g (xs.getD k default) := by
  conv => lhs; rw [tab_of xs, tab_map]
theorem rng_tab (n : Nat) : rng 0 (n : Int) = tab n fun k => PV.int (k : Int) := rng_map n
/-! ### comparing -/
@[simp] theorem shp_non : shp .non = true := by simp [shp, toD, SeqAt.shaped, PyData.canLay0, PyData.depth]
@[simp] theorem shp_bl (b : Bool) : shp (.bl b) = true := by simp [shp, toD, SeqAt.shaped, PyData.canLay0, PyData.depth]
@[simp] theorem shp_int (i : Int) : shp (.int i) = true := by simp [shp, toD, SeqAt.shaped, PyData.canLay0, PyData.depth]
@[simp] theorem shp_str (s : Str) : shp (.str s) = PyData.strOk s := by simp [shp, toD, SeqAt.shaped, PyData.canLay0, PyData.depth]
@[simp] theorem peq_int (i j : Int) : peq (.int i) (.int j) = decide (i = j) := by simp [peq, toD, PyData.eqv]; by_cases h : i = j <;> simp [h]
@[simp] theorem peq_bl (i j : Bool) : peq (.bl i) (.bl j) = (i == j) := by simp [peq, toD, PyData.eqv]
@[simp] theorem peq_str (i j : Str) : peq (.str i) (.str j) = (i == j) := by simp [peq, toD, PyData.eqv]
def peqs : List PV → List PV → Bool
  | [], [] => true
  | x :: xs, y :: ys => peq x y && peqs xs ys
  | _, _ => false
theorem peqs_all : ∀ xs ys : List PV, PyData.eqvAll (toDs xs) (toDs ys) = peqs xs ys
  | [], [] => rfl
  | [], _ :: _ => by simp [toDs, PyData.eqvAll, peqs]
  | _ :: _, [] => by simp [toDs, PyData.eqvAll, peqs]
  | x :: xs, y :: ys => by simp [toDs, PyData.eqvAll, peqs, peqs_all xs ys, peq]
@[simp] theorem peqs_nil : peqs [] [] = true := rfl
@[simp] theorem peqs_cons (x y : PV) (xs ys : List PV) : peqs (x :: xs) (y :: ys) = (peq x y && peqs xs ys) := rfl
@[simp] theorem peq_lst (xs ys : List PV) : peq (.lst xs) (.lst ys) = peqs xs ys := by simp [peq, toD, PyData.eqv, peqs_all]
@[simp] theorem peq_tup (xs ys : List PV) : peq (.tup xs) (.tup ys) = peqs xs ys := by simp [peq, toD, PyData.eqv, peqs_all]
@[simp] theorem shp_pair (a b : Int) : shp (.tup [.int a, .int b]) = true := by simp [shp, toD, toDs, SeqAt.shaped, PyData.canLay0, PyData.depth, PyData.canLayAll0, PyData.depthAll]
/-! ### plain values -/
/-- lists and tuples of plain values, to a depth -/
def Dp : Nat → PV → Prop
  | 0, _ => False
  | n + 1, .lst xs => xs.length ≤ 16777216 ∧ ∀ x ∈ xs, Dp n x
  | n + 1, .tup xs => xs.length ≤ 16777216 ∧ ∀ x ∈ xs, Dp n x
  | _ + 1, .ro _ => False
  | _ + 1, .str s => PyData.strOk s = true
  | _ + 1, _ => True
mutual
theorem dp_shp : ∀ {n : Nat} {x : PV}, Dp n x → (toD x).canLay0 = true ∧ (toD x).depth ≤ n
  | 0, _, h => h.elim
  | n + 1, .non, _ => by simp [toD, PyData.canLay0, PyData.depth]
  | n + 1, .bl _, _ => by simp [toD, PyData.canLay0, PyData.depth]
  | n + 1, .int _, _ => by simp [toD, PyData.canLay0, PyData.depth]
  | n + 1, .str _, h => by simp [toD, PyData.canLay0, PyData.depth]; exact h
  | n + 1, .ro _, h => h.elim
  | n + 1, .lst xs, h => by
    have := dps_shp (xs := xs) h.2
    simp [toD, PyData.canLay0, PyData.depth, this.1]; exact this.2
  | n + 1, .tup xs, h => by
    have := dps_shp (xs := xs) h.2
    simp [toD, PyData.canLay0, PyData.depth, this.1]; exact this.2
theorem dps_shp : ∀ {n : Nat} {xs : List PV}, (∀ x ∈ xs, Dp n x) → PyData.canLayAll0 (toDs xs) = true ∧ PyData.depthAll (toDs xs) ≤ n
  | n, [], _ => by simp [toDs, PyData.canLayAll0, PyData.depthAll]
  | n, x :: xs, h => by
    have h1 := dp_shp (h x List.mem_cons_self)
    have h2 := dps_shp (xs := xs) fun y hy => h y (List.mem_cons_of_mem _ hy)
    simp [toDs, PyData.canLayAll0, PyData.depthAll, h1.1, h2.1]
    omega
end
theorem shp_of {x : PV} (h : Dp 14 x) : shp x = true := by
  have := dp_shp h
  simp [shp, SeqAt.shaped, this.1]; omega
theorem like_refl : ∀ (n : Nat) (x : PV), Dp n x → Lib.d_law_likeN n [x, x] = .ok (.bl true)
  | 0, _, h => h.elim
  | n + 1, x, h => by
    have loop : ∀ (c : List PV → PV) (hc : ∀ xs i, oIx (c xs) (.int i) = .opt (atI xs i)) (xs : List PV), (∀ x ∈ xs, Dp n x) → ∃ y, forL (.n 2) (Lib.lp1_law_like (Lib.d_law_likeN n)) [some (c xs), some (c xs), none] (rng 0 (xs.length : Int)) = .ok (.nx [some (c xs), some (c xs), y]) := fun c hc xs hx => by
      obtain ⟨e, h1, y, rfl⟩ := forL_inv (tg := .n 2) (fb := Lib.lp1_law_like (Lib.d_law_likeN n)) (xs := rng 0 (xs.length : Int)) (env := [some (c xs), some (c xs), none])
        (fun k e => ∃ y, e = [some (c xs), some (c xs), y]) ⟨none, rfl⟩ fun k x e hk ⟨y, he⟩ => by
          obtain ⟨hv, hk⟩ := rng_get hk
          subst hv he
          have hk : k < xs.length := by omega
          rw [Int.zero_add]
          have e1 : oIx (c xs) (.int k) = .ok xs[k] := by rw [hc, atI_natCast, List.getElem?_eq_getElem hk]; rfl
          have := like_refl n xs[k] (hx _ (List.getElem_mem _))
          refine ⟨_, rfl, [some (c xs), some (c xs), some (.int k)], ?_, _, rfl⟩
          simp only [Lib.lp1_law_like]
          simp [e1, this]
      exact ⟨y, h1⟩
    cases x with
    | lst xs =>
      obtain ⟨hl, hx⟩ := h
      have hl : xs.length < 4611686018427387904 := by omega
      obtain ⟨y, hy⟩ := loop .lst (fun _ _ => rfl) xs hx
      simp [Lib.d_law_likeN, Lib.b_law_like, hl, hy]
    | tup xs =>
      obtain ⟨hl, hx⟩ := h
      have hl : xs.length < 4611686018427387904 := by omega
      obtain ⟨y, hy⟩ := loop .tup (fun _ _ => rfl) xs hx
      simp [Lib.d_law_likeN, Lib.b_law_like, hl, hy]
    | ro ns => exact h.elim
    | str s => simp [Lib.d_law_likeN, Lib.b_law_like, show PyData.strOk s = true from h]
    | _ => simp [Lib.d_law_likeN, Lib.b_law_like]
theorem e_like {x : PV} (h : Dp 14 x) : Lib.d_law_like [x, x] = .ok (.bl true) := like_refl 14 x h
theorem same_refl : ∀ (n : Nat) (x : PV), Dp n x → Lib.d_law_sameN n [x, x] = .ok (.bl true)
  | 0, _, h => h.elim
  | n + 1, x, h => by
    have loop : ∀ (c : List PV → PV) (hc : ∀ xs i, oIx (c xs) (.int i) = .opt (atI xs i)) (xs : List PV), (∀ x ∈ xs, Dp n x) → ∃ y, forL (.n 2) (Lib.lp1_law_same (Lib.d_law_sameN n)) [some (c xs), some (c xs), none] (rng 0 (xs.length : Int)) = .ok (.nx [some (c xs), some (c xs), y]) := fun c hc xs hx => by
      obtain ⟨e, h1, y, rfl⟩ := forL_inv (tg := .n 2) (fb := Lib.lp1_law_same (Lib.d_law_sameN n)) (xs := rng 0 (xs.length : Int)) (env := [some (c xs), some (c xs), none])
        (fun k e => ∃ y, e = [some (c xs), some (c xs), y]) ⟨none, rfl⟩ fun k x e hk ⟨y, he⟩ => by
          obtain ⟨hv, hk⟩ := rng_get hk
          subst hv he
          have hk : k < xs.length := by omega
          rw [Int.zero_add]
          have e1 : oIx (c xs) (.int k) = .ok xs[k] := by rw [hc, atI_natCast, List.getElem?_eq_getElem hk]; rfl
          have := same_refl n xs[k] (hx _ (List.getElem_mem _))
          refine ⟨_, rfl, [some (c xs), some (c xs), some (.int k)], ?_, _, rfl⟩
          simp only [Lib.lp1_law_same]
          simp [e1, this]
      exact ⟨y, h1⟩
    cases x with
    | lst xs =>
      obtain ⟨hl, hx⟩ := h
      have hl : xs.length < 4611686018427387904 := by omega
      obtain ⟨y, hy⟩ := loop .lst (fun _ _ => rfl) xs hx
      simp [Lib.d_law_sameN, Lib.b_law_same, hl, hy]
    | tup xs =>
      obtain ⟨hl, hx⟩ := h
      have hl : xs.length < 4611686018427387904 := by omega
      obtain ⟨y, hy⟩ := loop .tup (fun _ _ => rfl) xs hx
      simp [Lib.d_law_sameN, Lib.b_law_same, hl, hy]
    | ro ns => exact h.elim
    | str s => simp [Lib.d_law_sameN, Lib.b_law_same, show PyData.strOk s = true from h]
    | _ => simp [Lib.d_law_sameN, Lib.b_law_same]
theorem e_same {x : PV} (h : Dp 14 x) : Lib.d_law_same [x, x] = .ok (.bl true) := same_refl 14 x h
theorem copy_id : ∀ (n : Nat) (x : PV), Dp n x → Lib.d_law_copyN n [x] = .ok x
  | 0, _, h => h.elim
  | n + 1, x, h => by
    cases x with
    | lst xs =>
      have := compL_map (g := tgS (.n 1)) (fe := eFun (Lib.d_law_copyN n) (aCons (eV 1) aNil)) (env := [some (.lst xs), none]) id id xs fun x hx => ⟨[some (.lst xs), some x], rfl, by simp [copy_id n x (h.2 x hx)]⟩
      simp only [List.map_id_fun, id_eq] at this
      simp [Lib.d_law_copyN, Lib.b_law_copy, this, h.1]
    | tup xs =>
      have := compL_map (g := tgS (.n 1)) (fe := eFun (Lib.d_law_copyN n) (aCons (eV 1) aNil)) (env := [some (.tup xs), none]) id id xs fun x hx => ⟨[some (.tup xs), some x], rfl, by simp [copy_id n x (h.2 x hx)]⟩
      simp only [List.map_id_fun, id_eq] at this
      simp [Lib.d_law_copyN, Lib.b_law_copy, this, h.1]
    | ro ns => exact h.elim
    | _ => simp [Lib.d_law_copyN, Lib.b_law_copy]
theorem e_copy {x : PV} (h : Dp 14 x) : Lib.d_law_copy [x] = .ok x := copy_id 14 x h
end Pw

namespace Pw
open PySem L2
/-! ### while -/
theorem sWhile_ok {c : Env → Rs Bool} {b : Env → Rs Out} {m : Nat} {env : Env} {o : Out} (h : whileN c b m env = .ok o) : sWhile c b env = .ok o := by
  have hn : whileN c b m env ≠ .stuck := by rw [h]; intro e; cases e
  have ex : ∃ m, whileN c b m env ≠ .stuck := ⟨m, hn⟩
  unfold sWhile
  rw [dif_pos ex]
  have h2 := ex.choose_spec
  rw [← h]
  rcases Nat.le_total m ex.choose with l | l
  · obtain ⟨d, e⟩ := Nat.exists_eq_add_of_le l
    rw [e]; exact whileN_le hn d
  · obtain ⟨d, e⟩ := Nat.exists_eq_add_of_le l
    conv => rhs; rw [e]
    exact (whileN_le h2 d).symm
/-! ### the law's own fractions: Euclid by a while -/
theorem frac_b_loop (t b : Int) (tt : Env → Rs Bool) (ht : tt = eT (eOp oGt (eV 3) (eC (.int 0)))) : ∀ (m x y : Nat), y < m → whileN tt Lib.lp1_law_frac_b m [some (.int t), some (.int b), some (.int x), some (.int y)] = .ok (.nx [some (.int t), some (.int b), some (.int (Nat.gcd x y : Nat)), some (.int 0)])
  | 0, _, _, h => absurd h (Nat.not_lt_zero _)
  | m + 1, x, y, h => by
    subst ht
    rw [whileN]
    by_cases hy : 0 < y
    · have ih := frac_b_loop t b _ rfl m y (x % y) (by have := Nat.mod_lt x hy; omega)
      rw [Nat.gcd_comm, ← Nat.gcd_rec, Nat.gcd_comm] at ih
      have e : ((x % y : Nat) : Int) = (x : Int) % y := Int.natCast_emod ..
      rw [e] at ih
      simp only [Lib.lp1_law_frac_b] at ih ⊢
      simp [hy, ih]
    · have : y = 0 := by omega
      subst this
      simp
theorem e_frac_b {t b : Int} {s : Nat} (hb : b.natAbs < 2 ^ s) (h0 : 0 < b) (hs : s < 9000) : Lib.d_law_frac_b [.int t, .int b] = .ok (fr (Rat.divInt t b)) := by
  have gpos : 0 < Nat.gcd t.natAbs b.natAbs := Nat.gcd_pos_of_pos_right _ (by omega)
  have glt : (Nat.gcd t.natAbs b.natAbs).log2 < 9000 := by
    have : Nat.gcd t.natAbs b.natAbs < 2 ^ s := Nat.lt_of_le_of_lt (Nat.gcd_le_right _ (by omega)) hb
    have := log2_le this
    omega
  have bs : b.sign = 1 := Int.sign_eq_one_of_pos h0
  have num : (Rat.divInt t b).num = t / (Nat.gcd t.natAbs b.natAbs : Nat) := by
    rw [Rat.num_divInt, bs, Int.one_mul]
    congr 1
    rw [Int.gcd, Nat.gcd_comm]
  have den : ((Rat.divInt t b).den : Int) = b / (Nat.gcd t.natAbs b.natAbs : Nat) := by
    rw [Rat.den_divInt, if_neg (by omega), Int.gcd, Nat.gcd_comm]
    rw [Int.natCast_ediv, Int.natAbs_of_nonneg (by omega)]
  have l := sWhile_ok (frac_b_loop t b _ rfl (b.natAbs + 1) t.natAbs b.natAbs (Nat.lt_succ_self _))
  have eb : (b.natAbs : Int) = b := by omega
  rw [eb] at l
  have c1 : (0 : Int) < ((Nat.gcd t.natAbs b.natAbs : Nat) : Int) := by omega
  simp only [Lib.d_law_frac_b, Lib.b_law_frac_b]
  have ea : (if t < 0 then -t else t) = (t.natAbs : Int) := by split <;> omega
  simp [ea, l, glt, fr, num, den, gpos]
section
variable {a b : Rat} {s t u : Nat}
theorem den_mul_pos : 0 < (a.den : Int) * (b.den : Int) := Int.mul_pos (den_pos_int a) (den_pos_int b)
theorem e_plus_b (ha : Sz s a) (hb : Sz t b) (h : s + t < 8000) : Lib.d_law_plus_b [fr a, fr b] = .ok (fr (a + b)) := by
  obtain ⟨m1, m2, m3, _⟩ := ha.mulOk hb (by omega)
  obtain ⟨h1, h2, h3, _⟩ := ha.parts hb
  have := e_frac_b (t := a.num * b.den + b.num * a.den) h3 den_mul_pos (by omega)
  rw [raw_add] at this
  simp [Lib.d_law_plus_b, Lib.b_law_plus_b, fr, m1, m2, m3]
  rw [this]; rfl
theorem e_minus_b (ha : Sz s a) (hb : Sz t b) (h : s + t < 8000) : Lib.d_law_minus_b [fr a, fr b] = .ok (fr (a - b)) := by
  obtain ⟨m1, m2, m3, _⟩ := ha.mulOk hb (by omega)
  obtain ⟨h1, h2, h3, _⟩ := ha.parts hb
  have := e_frac_b (t := a.num * b.den - b.num * a.den) h3 den_mul_pos (by omega)
  rw [raw_sub] at this
  simp [Lib.d_law_minus_b, Lib.b_law_minus_b, fr, m1, m2, m3]
  rw [this]; rfl
end
@[simp ↓] theorem oIx_fr0 (q : Rat) : oIx (fr q) (.int 0) = .ok (.int q.num) := by simp [fr]
@[simp ↓] theorem oIx_fr1 (q : Rat) : oIx (fr q) (.int 1) = .ok (.int q.den) := by simp [fr]
@[simp ↓] theorem noL_fr (q : Rat) : noL (fr q) = true := by simp [fr]
@[simp ↓] theorem tyN_fr (q : Rat) : tyN (fr q) = "tuple" := rfl
@[simp ↓] theorem shp_fr (q : Rat) : shp (fr q) = true := by simp [fr]
@[simp] theorem dp_fr (n : Nat) (q : Rat) : Dp (n + 2) (fr q) := by simp [fr, Dp]
theorem fr_int (n : Int) : fr (n : Rat) = .tup [.int n, .int 1] := rfl
/-! ### sizes by a common bottom -/
/-- a fraction over `D` with top at most `M` -/
def Gr (D M : Nat) (q : Rat) : Prop := 0 < D ∧ ∃ z : Int, q * (D : Rat) = (z : Rat) ∧ z.natAbs ≤ M
theorem Gr.le {D M N : Nat} {q : Rat} (h : Gr D M q) (l : M ≤ N) : Gr D N q := ⟨h.1, h.2.imp fun z hz => ⟨hz.1, by omega⟩⟩
theorem Gr.add {D M N : Nat} {p q : Rat} (h : Gr D M p) (k : Gr D N q) : Gr D (M + N) (p + q) := by
  obtain ⟨h0, z, hz, lz⟩ := h
  obtain ⟨_, w, hw, lw⟩ := k
  exact ⟨h0, z + w, by rw [Rat.intCast_add]; grind, by omega⟩
theorem Gr.sub {D M N : Nat} {p q : Rat} (h : Gr D M p) (k : Gr D N q) : Gr D (M + N) (p - q) := by
  obtain ⟨h0, z, hz, lz⟩ := h
  obtain ⟨_, w, hw, lw⟩ := k
  exact ⟨h0, z - w, by rw [Rat.intCast_sub]; grind, by omega⟩
theorem Gr.int {D : Nat} (h0 : 0 < D) (n : Int) : Gr D (n.natAbs * D) (n : Rat) := ⟨h0, n * D, by rw [Rat.intCast_mul, Rat.intCast_natCast], by rw [Int.natAbs_mul, Int.natAbs_natCast]; exact Nat.le_refl _⟩
theorem Gr.divInt {D c : Nat} {t b : Int} (hb : b ≠ 0) (e : b * c = D) (h0 : 0 < D) : Gr D (t.natAbs * c) (Rat.divInt t b) := by
  refine ⟨h0, t * c, ?_, by rw [Int.natAbs_mul, Int.natAbs_natCast]; exact Nat.le_refl _⟩
  have hb' : (b : Rat) ≠ 0 := fun h => hb (Rat.intCast_inj.mp h)
  have eD : (D : Rat) = (b : Rat) * (c : Rat) := by rw [← Rat.intCast_natCast D, ← e, Rat.intCast_mul, Rat.intCast_natCast]
  rw [eD, Rat.divInt_eq_div, Rat.intCast_mul, Rat.intCast_natCast]
  have := Rat.mul_inv_cancel _ hb'
  rw [Rat.div_def]
  grind
theorem Gr.sz {D M s : Nat} {q : Rat} (h : Gr D M q) (hM : M < 2 ^ s) (hD : D < 2 ^ s) : Sz s q := by
  obtain ⟨h0, z, hz, lz⟩ := h
  have hD' : ((D : Int) : Rat) ≠ 0 := fun h => by
    have := (Rat.intCast_inj (a := (D : Int)) (b := 0)).mp h
    omega
  have e : q = Rat.divInt z (D : Int) := by
    rw [Rat.divInt_eq_div, Rat.div_def, Rat.intCast_natCast] at *
    have := Rat.mul_inv_cancel _ hD'
    grind
  rw [e]
  exact divInt_sz (Nat.lt_of_le_of_lt lz hM) (by rw [Int.natAbs_natCast]; exact hD) (by omega)
theorem Gr.take {D M : Nat} {qs : List Rat} (h0 : 0 < D) (h : ∀ q ∈ qs, Gr D M q) : ∀ k : Nat, k ≤ qs.length → Gr D (k * M) (qs.take k).sum
  | 0, _ => ⟨h0, 0, by simp [Rat.zero_mul], by simp⟩
  | k + 1, hk => by
    have e : qs[k]? = some qs[k] := by simp [show k < qs.length by omega]
    rw [sum_take_succ e, Nat.succ_mul]
    exact (Gr.take h0 h k (by omega)).add (h qs[k] (List.getElem_mem _))
theorem e_sumG {fb : Env → Rs Out} {v : PV} {qs : List Rat} {t : Nat} (h : ∀ k, k ≤ qs.length → Sz t (qs.take k).sum)
    (hp : ∀ {a b : Rat} {y : Option PV}, b ∈ qs → Sz t a → fb [some v, some (fr a), some (fr b)] = .ok (.nx [some v, some (fr (a + b)), some (fr b)])) (x0 : Option PV) :
    ∃ y, forL (.n 2) fb [some v, some (fr 0), x0] (qs.map fr) = .ok (.nx [some v, some (fr qs.sum), y]) := by
  obtain ⟨e, h1, h2⟩ := forL_inv (tg := .n 2) (fb := fb) (xs := qs.map fr) (env := [some v, some (fr 0), x0])
    (fun k e => ∃ y, e = [some v, some (fr (qs.take k).sum), y]) ⟨x0, by simp⟩ fun k x e hx ⟨y, he⟩ => by
      rw [List.getElem?_map] at hx
      obtain ⟨q, hq, rfl⟩ := Option.map_eq_some_iff.mp hx
      subst he
      have hk : k < qs.length := (List.getElem?_eq_some_iff.mp hq).1
      have := hp (y := none) (List.mem_of_getElem? hq) (h k (by omega))
      rw [← sum_take_succ hq] at this
      exact ⟨_, rfl, _, this, _, rfl⟩
  obtain ⟨y, rfl⟩ := h2
  rw [List.length_map, List.take_length] at h1
  exact ⟨y, h1⟩
theorem e_sum_ofG {qs : List Rat} {s t : Nat} (h : ∀ q ∈ qs, Sz s q) (h2 : ∀ k, k ≤ qs.length → Sz t (qs.take k).sum) (hz : t + s < 8000) : Lib.d_sum_of [.lst (qs.map fr)] = .ok (fr qs.sum) := by
  obtain ⟨y, hy⟩ := e_sumG (fb := Lib.lp1_sum_of) (v := .lst (qs.map fr)) h2 (fun hb ha => by
    simp [Lib.lp1_sum_of, e_plus ha (h _ hb) (by omega)]) none
  rw [fr_zero] at hy
  simp [Lib.d_sum_of, Lib.b_sum_of, Lib.c_ZERO, hy]
/-! ### loops over tables -/
@[simp] theorem tab_zero {α : Type} (f : Nat → α) : tab 0 f = [] := rfl

@[simp] theorem atI_tab {α : Type} (n : Nat) (f : Nat → α) (i : Int) : atI (tab n f) i = if 0 ≤ i ∧ i < n then some (f i.toNat) else if i < 0 ∧ 0 ≤ i + n then some (f (i + n).toNat) else none := by
  by_cases h : 0 ≤ i
  · obtain ⟨k, rfl⟩ := Int.eq_ofNat_of_zero_le h
    rw [atI_natCast, tab_get, Int.toNat_natCast]
    by_cases hk : k < n
    · rw [if_pos hk, if_pos (by omega)]
    · rw [if_neg hk, if_neg (by omega), if_neg (by omega)]
  · unfold atI ixN
    rw [tab_length, if_neg h]
    by_cases hk : -(n : Int) ≤ i
    · rw [if_pos hk, if_neg (by omega), if_pos (by omega), Option.bind_some, tab_get, if_pos (by omega)]
    · rw [if_neg hk, if_neg (by omega), if_neg (by omega)]; rfl
theorem forT {fb : Env → Rs Out} {s n : Nat} {f : Nat → PV} {env : Env} (I : Nat → Env → Prop) (h0 : I 0 env) (hs : ∀ k e, k < n → I k e → ∃ e2, fb (e.set s (some (f k))) = .ok (.nx e2) ∧ I (k + 1) e2) :
    ∃ e, forL (.n s) fb env (tab n f) = .ok (.nx e) ∧ I n e := by
  have := forL_inv (tg := .n s) (fb := fb) (xs := tab n f) I h0 fun k x e hx hI => by
    rw [tab_get] at hx
    by_cases hk : k < n
    · rw [if_pos hk] at hx
      cases hx
      exact ⟨_, rfl, hs k e hk hI⟩
    · rw [if_neg hk] at hx; cases hx
  rwa [tab_length] at this
theorem forN {fb : Env → Rs Out} {s n : Nat} {env : Env} (I : Nat → Env → Prop) (h0 : I 0 env) (hs : ∀ k e, k < n → I k e → ∃ e2, fb (e.set s (some (.int (k : Nat)))) = .ok (.nx e2) ∧ I (k + 1) e2) :
    ∃ e, forL (.n s) fb env (rng 0 (n : Int)) = .ok (.nx e) ∧ I n e := by
  rw [rng_tab]; exact forT I h0 hs
theorem forT_ret {fb : Env → Rs Out} {s n : Nat} {f : Nat → PV} {env : Env} (I : Nat → Env → Prop) (R : PV → Prop) (h0 : I 0 env) (hs : ∀ k e, k < n → I k e → (∃ e2, fb (e.set s (some (f k))) = .ok (.nx e2) ∧ I (k + 1) e2) ∨ ∃ y, fb (e.set s (some (f k))) = .ok (.rt y) ∧ R y) :
    (∃ e, forL (.n s) fb env (tab n f) = .ok (.nx e) ∧ I n e) ∨ ∃ y, forL (.n s) fb env (tab n f) = .ok (.rt y) ∧ R y := by
  have := forL_ret (tg := .n s) (fb := fb) (xs := tab n f) I R h0 fun k x e hx hI => by
    rw [tab_get] at hx
    by_cases hk : k < n
    · rw [if_pos hk] at hx
      cases hx
      exact ⟨_, rfl, hs k e hk hI⟩
    · rw [if_neg hk] at hx; cases hx
  rwa [tab_length] at this
theorem compT {fe : Env → Rs PV} {s n : Nat} {f g : Nat → PV} {env : Env} (h : ∀ k, k < n → fe (env.set s (some (f k))) = .ok (g k)) : compL (tgS (.n s)) tYesD fe env (tab n f) = .ok (tab n g) := by
  unfold tab
  have := compL_map (g := tgS (.n s)) (fe := fe) (env := env) f g (List.range n) fun k hk => ⟨_, rfl, h k (List.mem_range.mp hk)⟩
  exact this
theorem compT' {fe : Env → Rs PV} {s n : Nat} {f g : Nat → PV} {env : Env} (h : ∀ k, k < n → fe (env.set s (some (f k))) = .ok (g k)) : compL (fun x e => .ok (e.set s (some x))) tYesD fe env (tab n f) = .ok (tab n g) := compT h
theorem compTf {fe : Env → Rs PV} {tt : Env → Rs Bool} {s n : Nat} {f g : Nat → PV} {p : Nat → Bool} {env : Env} (h : ∀ k, k < n → tt (env.set s (some (f k))) = .ok (p k) ∧ (p k = true → fe (env.set s (some (f k))) = .ok (g k))) : compL (fun x e => .ok (e.set s (some x))) tt fe env (tab n f) = .ok (((List.range n).filter p).map g) := by
  unfold tab
  have := compL_filter (g := tgS (.n s)) (tt := tt) (fe := fe) (env := env) f p g (List.range n) fun k hk => ⟨_, rfl, h k (List.mem_range.mp hk)⟩
  exact this
theorem e_draws {ns : List Int} {B : Nat} (hb : ∀ z ∈ ns, z.natAbs < 2 ^ B) (hB : B ≤ 1048576) (at_ n : Nat) (ha : at_ < 2 ^ 20 := by decide) (hn : n < 2 ^ 20 := by decide) : ∃ p : Nat → Nat, Lib.d_law_draws_b [.ro ns, .int at_, .int n] = .ok (.lst (tab n fun k => .int (p k : Nat))) ∧ ∀ k, p k < 5040 := by
  obtain ⟨l, h1, h2, h3⟩ := e_draws_b hb hB at_ n ha hn
  have e := tab_of l
  rw [h2] at e
  refine ⟨fun k => (l.getD k default).toNat, ?_, fun k => ?_⟩
  · rw [h1]
    conv => lhs; rw [e, tab_map]
    congr 2
    exact tab_ext fun k hk => by
      have := h3 (l.getD k default) (by rw [List.getD_eq_getElem?_getD, List.getElem?_eq_getElem (by omega)]; exact List.getElem_mem _)
      rw [show ((l.getD k default).toNat : Int) = l.getD k default by omega]
  · show (l.getD k default).toNat < 5040
    by_cases hk : k < l.length
    · have := h3 (l.getD k default) (by rw [List.getD_eq_getElem?_getD, List.getElem?_eq_getElem hk]; exact List.getElem_mem _)
      omega
    · rw [List.getD_eq_getElem?_getD, List.getElem?_eq_none (by omega)]; decide
theorem sum_tab_succ (n : Nat) (f : Nat → Rat) : (tab (n + 1) f).sum = (tab n f).sum + f n := by
  rw [tab_succ]; simp [List.sum_append, Rat.add_zero]
theorem take_tab {α : Type} {n k : Nat} (h : k ≤ n) (f : Nat → α) : (tab n f).take k = tab k f := by
  apply List.ext_getElem?
  intro j
  rw [List.getElem?_take, tab_get, tab_get]
  by_cases hj : j < k
  · rw [if_pos hj, if_pos hj, if_pos (by omega)]
  · rw [if_neg hj, if_neg hj]
theorem mem_tab {α : Type} {n : Nat} {f : Nat → α} {x : α} : x ∈ tab n f ↔ ∃ k, k < n ∧ f k = x := by
  unfold tab; simp
theorem enm_tab (n : Nat) (f : Nat → PV) : enm (tab n f) = tab n fun k => .tup [.int (k : Nat), f k] := by
  apply List.ext_getElem?
  intro k
  unfold enm
  rw [List.getElem?_map, List.getElem?_zipIdx, tab_get, tab_get]
  by_cases h : k < n
  · rw [if_pos h, if_pos h]; simp
  · rw [if_neg h, if_neg h]; rfl
theorem zp_tab (n : Nat) (f g : Nat → PV) : zp (tab n f) (tab n g) = tab n fun k => .tup [f k, g k] := by
  apply List.ext_getElem?
  intro k
  unfold zp
  rw [tab_get]
  by_cases h : k < n
  · rw [if_pos h]; simp [List.getElem?_zipWith, List.getElem?_map, h]
  · rw [if_neg h]; simp [List.getElem?_zipWith, List.getElem?_map, h]
end Pw

namespace Pw
open PySem L2
/-! ### a run, step by step -/
/-- the run gives a value, and the value is so -/
def Wp {α : Type} (r : Rs α) (P : α → Prop) : Prop := ∃ a, r = .ok a ∧ P a
@[simp] theorem Rs.bind_assoc {α β γ : Type} (r : Rs α) (f : α → Rs β) (g : β → Rs γ) : (r.bind f).bind g = r.bind fun a => (f a).bind g := by cases r <;> rfl
@[simp] theorem wp_ok {α : Type} {a : α} {P : α → Prop} : Wp (.ok a) P ↔ P a := ⟨fun ⟨_, e, h⟩ => by cases e; exact h, fun h => ⟨a, rfl, h⟩⟩
theorem Wp.mono {α : Type} {r : Rs α} {P Q : α → Prop} (h : Wp r P) (i : ∀ a, P a → Q a) : Wp r Q := by
  obtain ⟨a, e, h⟩ := h; exact ⟨a, e, i a h⟩
theorem wp_of {α : Type} {r : Rs α} {a : α} (h : ∀ P : α → Prop, P a → Wp r P) : r = .ok a := by
  obtain ⟨_, e, h⟩ := h (fun x => x = a) rfl; subst h; exact e
/-- a def gives a value -/
theorem wp_run {dr n : Nat} {b : Env → Rs Out} {xs : List PV} {v : PV} (h : ∀ P : Out → Prop, P (.rt v) → Wp (b (startE n xs)) P) : runB dr n b xs = .ok v := by
  unfold runB
  rw [wp_of h]; rfl
theorem wp_runP {dr n : Nat} {b : Env → Rs Out} {xs : List PV} (J : PV → Prop) (h : ∀ P : Out → Prop, (∀ v, J v → P (.rt v)) → Wp (b (startE n xs)) P) : ∃ v, runB dr n b xs = .ok v ∧ J v := by
  obtain ⟨o, e, v, rfl, h⟩ := h (fun o => ∃ v, o = .rt v ∧ J v) fun v hv => ⟨v, rfl, hv⟩
  refine ⟨v, ?_, h⟩
  unfold runB
  rw [e]; rfl
theorem wp_thn {r : Rs Out} {g : Env → Rs Out} {P : Out → Prop} (h : Wp r fun o => match o with | .nx e => Wp (g e) P | .rt y => P (.rt y)) : Wp (thn r g) P := by
  obtain ⟨o, rfl, h⟩ := h
  cases o with
  | nx e => exact h
  | rt y => exact ⟨_, rfl, h⟩
section
variable {fb g : Env → Rs Out} {fe : Env → Rs PV} {tt : Env → Rs Bool} {s n : Nat} {f : Nat → PV} {env : Env} {P : Out → Prop}
/-- what a body leaves -/
def Nx (J : Env → Prop) (r : Rs Out) : Prop := ∀ P : Out → Prop, (∀ e, J e → P (.nx e)) → Wp r P
def NxR (J : Env → Prop) (R : PV → Prop) (r : Rs Out) : Prop := ∀ P : Out → Prop, (∀ e, J e → P (.nx e)) → (∀ y, R y → P (.rt y)) → Wp r P
theorem wp_forT (I : Nat → Env → Prop) (h0 : I 0 env) (hs : ∀ k e, k < n → I k e → Nx (I (k + 1)) (fb (e.set s (some (f k))))) (hk : ∀ e, I n e → Wp (g e) P) : Wp (thn (forL (.n s) fb env (tab n f)) g) P := by
  obtain ⟨e, h1, h2⟩ := forT (fb := fb) (s := s) (n := n) (f := f) I h0 fun k e hk hI => by
    obtain ⟨o, h1, e2, rfl, h2⟩ := hs k e hk hI (fun o => ∃ e2, o = .nx e2 ∧ I (k + 1) e2) fun e h => ⟨e, rfl, h⟩
    exact ⟨e2, h1, h2⟩
  rw [h1]; exact hk e h2
theorem wp_forTR (I : Nat → Env → Prop) (R : PV → Prop) (h0 : I 0 env) (hs : ∀ k e, k < n → I k e → NxR (I (k + 1)) R (fb (e.set s (some (f k))))) (hk : ∀ e, I n e → Wp (g e) P) (hr : ∀ y, R y → P (.rt y)) : Wp (thn (forL (.n s) fb env (tab n f)) g) P := by
  rcases forT_ret (fb := fb) (s := s) (n := n) (f := f) I R h0 fun k e hk hI => by
    obtain ⟨o, h1, h2⟩ := hs k e hk hI (fun o => (∃ e2, o = .nx e2 ∧ I (k + 1) e2) ∨ ∃ y, o = .rt y ∧ R y) (fun e h => .inl ⟨e, rfl, h⟩) fun y h => .inr ⟨y, rfl, h⟩
    rcases h2 with ⟨e2, rfl, h2⟩ | ⟨y, rfl, h2⟩
    · exact .inl ⟨e2, h1, h2⟩
    · exact .inr ⟨y, h1, h2⟩
    with ⟨e, h1, h2⟩ | ⟨y, h1, h2⟩
  · rw [h1]; exact hk e h2
  · rw [h1]; exact ⟨_, rfl, hr y h2⟩
theorem wp_forTg {tg : Tg} (I : Nat → Env → Prop) (h0 : I 0 env) (hs : ∀ k e, k < n → I k e → ∃ e1, tgS tg (f k) e = .ok e1 ∧ Nx (I (k + 1)) (fb e1)) (hk : ∀ e, I n e → Wp (g e) P) : Wp (thn (forL tg fb env (tab n f)) g) P := by
  obtain ⟨e, h1, h2⟩ := forL_inv (tg := tg) (fb := fb) (xs := tab n f) I h0 fun k x e hx hI => by
    rw [tab_get] at hx
    by_cases hk : k < n
    · rw [if_pos hk] at hx
      cases hx
      obtain ⟨e1, h0, h1⟩ := hs k e hk hI
      obtain ⟨o, h1, e2, rfl, h2⟩ := h1 (fun o => ∃ e2, o = .nx e2 ∧ I (k + 1) e2) fun e h => ⟨e, rfl, h⟩
      exact ⟨e1, h0, e2, h1, h2⟩
    · rw [if_neg hk] at hx; cases hx
  rw [h1]; rw [tab_length] at h2; exact hk e h2
theorem wp_for (I : Nat → Env → Prop) (h0 : I 0 env) (hs : ∀ k e, k < n → I k e → Nx (I (k + 1)) (fb (e.set s (some (.int (k : Nat)))))) (hk : ∀ e, I n e → Wp (g e) P) : Wp (thn (forL (.n s) fb env (rng 0 (n : Int))) g) P := by
  rw [rng_tab]; exact wp_forT I h0 hs hk
theorem wp_forR (I : Nat → Env → Prop) (R : PV → Prop) (h0 : I 0 env) (hs : ∀ k e, k < n → I k e → NxR (I (k + 1)) R (fb (e.set s (some (.int (k : Nat)))))) (hk : ∀ e, I n e → Wp (g e) P) (hr : ∀ y, R y → P (.rt y)) : Wp (thn (forL (.n s) fb env (rng 0 (n : Int))) g) P := by
  rw [rng_tab]; exact wp_forTR I R h0 hs hk hr
/-- a comprehension in a statement, in an expression -/
theorem wp_comp {K : List PV → Rs Out} (gg : Nat → PV) (h : ∀ k, k < n → fe (env.set s (some (f k))) = .ok (gg k)) (hk : Wp (thn (K (tab n gg)) g) P) : Wp (thn ((compL (tgS (.n s)) tYesD fe env (tab n f)).noexc.bind K) g) P := by
  rw [compT (g := gg) h]; exact hk
theorem wp_compN {K : List PV → Rs Out} (gg : Nat → PV) (h : ∀ k, k < n → fe (env.set s (some (.int (k : Nat)))) = .ok (gg k)) (hk : Wp (thn (K (tab n gg)) g) P) : Wp (thn ((compL (tgS (.n s)) tYesD fe env (rng 0 (n : Int))).noexc.bind K) g) P := by
  rw [rng_tab]; exact wp_comp gg h hk
theorem wp_compF {K : List PV → Rs Out} (p : Nat → Bool) (gg : Nat → PV) (h : ∀ k, k < n → tt (env.set s (some (f k))) = .ok (p k)) (h2 : ∀ k, k < n → p k = true → fe (env.set s (some (f k))) = .ok (gg k)) (hk : Wp (thn (K (((List.range n).filter p).map gg)) g) P) :
    Wp (thn ((compL (tgS (.n s)) tt fe env (tab n f)).noexc.bind K) g) P := by
  have := compTf (g := gg) (p := p) fun k hk => ⟨h k hk, h2 k hk⟩
  have this : compL (tgS (.n s)) tt fe env (tab n f) = _ := this
  rw [this]; exact hk
theorem wp_compFN {K : List PV → Rs Out} (p : Nat → Bool) (gg : Nat → PV) (h : ∀ k, k < n → tt (env.set s (some (.int (k : Nat)))) = .ok (p k)) (h2 : ∀ k, k < n → p k = true → fe (env.set s (some (.int (k : Nat)))) = .ok (gg k)) (hk : Wp (thn (K (((List.range n).filter p).map gg)) g) P) :
    Wp (thn ((compL (tgS (.n s)) tt fe env (rng 0 (n : Int))).noexc.bind K) g) P := by
  rw [rng_tab]; exact wp_compF p gg h h2 hk
end
end Pw

namespace Pw
open PySem L2
/-! ### bits -/
/-- the riders of a group, below m -/
def bitsL (g m : Nat) : List Nat := (List.range m).filter fun k => g.testBit k
theorem bitsL_succ (g m : Nat) : bitsL g (m + 1) = bitsL g m ++ if g.testBit m = true then [m] else [] := by
  unfold bitsL
  rw [List.range_succ, List.filter_append]
  congr 1
  by_cases h : g.testBit m = true
  · simp [h]
  · simp [h]
theorem bit_mod (g r : Nat) : (g / 2 ^ r) % 2 = 1 ↔ g.testBit r = true := by
  rw [Nat.testBit_eq_decide_div_mod_eq]; simp
theorem bitsL_high {g m : Nat} (h : g < 2 ^ m) : ∀ j, bitsL g (m + j) = bitsL g m
  | 0 => rfl
  | j + 1 => by
    rw [← Nat.add_assoc, bitsL_succ, bitsL_high h j]
    have : g.testBit (m + j) = false := Nat.testBit_lt_two_pow (Nat.lt_of_lt_of_le h (Nat.pow_le_pow_right (by omega) (by omega)))
    simp [this]
theorem bitsL_length (g : Nat) : ∀ m, (bitsL g m).length ≤ m
  | 0 => Nat.le_refl _
  | m + 1 => by
    rw [bitsL_succ, List.length_append]
    have := bitsL_length g m
    split <;> simp <;> omega
theorem riders_loop (g m : Nat) (hg : g < 2 ^ m) (hm : m ≤ 1000) (tt : Env → Rs Bool) (ht : tt = eT (eOp oGt (eV 0) (eC (.int 0)))) : ∀ j r : Nat, r + j = m →
    ∃ r' : Int, whileN tt Lib.lp1_riders_in (j + 1) [some (.int (g / 2 ^ r : Nat)), some (.lst ((bitsL g r).map fun k => .int (k : Nat))), some (.int (r : Nat))] = .ok (.nx [some (.int 0), some (.lst ((bitsL g m).map fun k => .int (k : Nat))), some (.int r')])
  | j, r, hj => by
    rw [whileN]
    by_cases h0 : g / 2 ^ r = 0
    · have hlt : g < 2 ^ r := by
        rcases Nat.lt_or_ge g (2 ^ r) with h | h
        · exact h
        · have := Nat.div_pos h (Nat.two_pow_pos r); omega
      have e : bitsL g m = bitsL g r := by rw [← hj]; exact bitsL_high hlt j
      subst ht
      exact ⟨r, by simp [h0, e]⟩
    · match j with
      | 0 =>
        exfalso
        have : r = m := by omega
        subst this
        exact h0 (Nat.div_eq_of_lt hg)
      | j + 1 =>
        obtain ⟨r', ih⟩ := riders_loop g m hg hm tt ht j (r + 1) (by omega)
        refine ⟨r', ?_⟩
        rw [← ih]
        have hp : 0 < g / 2 ^ r := Nat.pos_of_ne_zero h0
        have e1 : ((g / 2 ^ r : Nat) : Int) / 2 = ((g / 2 ^ (r + 1) : Nat) : Int) := by
          rw [Nat.pow_succ, ← Nat.div_div_eq_div_mul]; omega
        have e2 : ((g / 2 ^ r : Nat) : Int) % 2 = (((g / 2 ^ r) % 2 : Nat) : Int) := by omega
        have hl := bitsL_length g r
        have hl2 : (bitsL g r).length < 16777216 := by omega
        rw [bitsL_succ]
        generalize g / 2 ^ (r + 1) = y at e1 ⊢
        by_cases hb : g.testBit r = true
        · have e3 := (bit_mod g r).mpr hb
          rw [e3] at e2
          generalize g / 2 ^ r = x at e1 e2 hp ⊢
          have hpi : 0 < (x : Int) := by omega
          subst ht
          simp only [Lib.lp1_riders_in]
          simp [hp, e1, e2, hb, hl2]
        · have e3 : (g / 2 ^ r) % 2 = 0 := by
            rcases Nat.mod_two_eq_zero_or_one (g / 2 ^ r) with h | h
            · exact h
            · exact absurd ((bit_mod g r).mp h) hb
          rw [e3] at e2
          generalize g / 2 ^ r = x at e1 e2 hp ⊢
          subst ht
          simp only [Lib.lp1_riders_in]
          simp [hp, e1, e2, hb, hl2]
theorem e_riders_in {g m : Nat} (hg : g < 2 ^ m) (hm : m ≤ 1000) : Lib.d_riders_in [.int (g : Nat)] = .ok (.lst ((bitsL g m).map fun k => .int (k : Nat))) := by
  obtain ⟨r', h⟩ := riders_loop g m hg hm _ rfl m 0 (by omega)
  have h := sWhile_eq (m := m + 1) (by rw [h]; intro e; cases e) |>.trans h
  simp [bitsL] at h
  simp [Lib.d_riders_in, Lib.b_riders_in, h, bitsL]
/-! ### powers of two -/
theorem pow_loop {fb g : Env → Rs Out} {v : PV} {x : Option PV} {n : Nat} {P : Out → Prop} (hn : n ≤ 100) (hf : ∀ (k : Nat) (y : Option PV) (i : PV), k < n → fb [some v, some (.int (2 ^ k : Nat)), some i] = .ok (.nx [some v, some (.int (2 ^ (k + 1) : Nat)), some i]))
    (hk : ∀ y, Wp (g [some v, some (.int (2 ^ n : Nat)), y]) P) : Wp (thn (forL (.n 2) fb [some v, some (.int 1), x] (rng 0 (n : Int))) g) P := by
  refine wp_for (fun k e => ∃ y, e = [some v, some (.int (2 ^ k : Nat)), y]) ⟨_, rfl⟩ ?_ ?_
  · rintro k e hk' ⟨y, rfl⟩ P hP
    have := hf k y (.int k) hk'
    rw [show [some v, some (PV.int (2 ^ k : Nat)), y].set 2 (some (.int (k : Nat))) = [some v, some (PV.int (2 ^ k : Nat)), some (.int (k : Nat))] from rfl, this]
    simp
    exact hP _ ⟨_, rfl⟩
  · rintro e ⟨y, rfl⟩
    exact hk y
theorem two_pow_sz {k : Nat} (hk : k ≤ 100) : mulOk 2 ((2 ^ k : Nat) : Int) = true := mulOk_of (s := 2) (t := 101) (by decide) (by rw [Int.natAbs_natCast]; exact Nat.pow_lt_pow_right (by omega) (by omega)) (by omega)
theorem e_law_power {n : Nat} (hn : n ≤ 100) : Lib.d_law_power [.int (n : Nat)] = .ok (.int (2 ^ n : Nat)) := by
  refine wp_run fun P hP => ?_
  have h2 : n < 4611686018427387904 := by omega
  simp only [Lib.b_law_power]
  simp [h2, -Lib.k1_law_power, -Int.natCast_pow]
  refine pow_loop hn (fun k y i hk => ?_) fun y => ?_
  · have m := two_pow_sz (k := k) (by omega)
    have e : (2 : Int) * ((2 ^ k : Nat) : Int) = ((2 ^ (k + 1) : Nat) : Int) := by rw [Nat.pow_succ]; omega
    generalize 2 ^ (k + 1) = z at e ⊢
    generalize 2 ^ k = w at m e ⊢
    simp [Lib.lp1_law_power, m, e]
  · generalize 2 ^ n = z at hP ⊢
    simp
    exact hP
/-! ### loops over a list of coded things -/
section
variable {α : Type} {fb g : Env → Rs Out} {fe : Env → Rs PV} {tt : Env → Rs Bool} {s : Nat} {tg : Tg} {l : List α} {enc : α → PV} {env : Env} {P : Out → Prop}
theorem wp_forM (I : Nat → Env → Prop) (h0 : I 0 env) (hs : ∀ k x e, l[k]? = some x → I k e → ∃ e1, tgS tg (enc x) e = .ok e1 ∧ Nx (I (k + 1)) (fb e1)) (hk : ∀ e, I l.length e → Wp (g e) P) : Wp (thn (forL tg fb env (l.map enc)) g) P := by
  obtain ⟨e, h1, h2⟩ := forL_inv (tg := tg) (fb := fb) (xs := l.map enc) I h0 fun k x e hx hI => by
    rw [List.getElem?_map] at hx
    obtain ⟨y, hy, rfl⟩ := Option.map_eq_some_iff.mp hx
    obtain ⟨e1, h0, h1⟩ := hs k y e hy hI
    obtain ⟨o, h1, e2, rfl, h2⟩ := h1 (fun o => ∃ e2, o = .nx e2 ∧ I (k + 1) e2) fun e h => ⟨e, rfl, h⟩
    exact ⟨e1, h0, e2, h1, h2⟩
  rw [h1]; rw [List.length_map] at h2; exact hk e h2
/-- each is looked at, the first bad one ends the def -/
theorem wp_forAll (p : α → Bool) (y0 : PV) (J : Env → Prop) : ∀ {l : List α} {env : Env}, J env →
    (∀ x ∈ l, ∀ e, J e → ∃ e1, tgS tg (enc x) e = .ok e1 ∧ (p x = true → Nx J (fb e1)) ∧ (p x = false → fb e1 = .ok (.rt y0))) →
    (l.all p = true → ∀ e, J e → Wp (g e) P) → (l.all p = false → P (.rt y0)) → Wp (thn (forL tg fb env (l.map enc)) g) P
  | [], env, h0, _, hk, _ => hk rfl env h0
  | x :: l, env, h0, hs, hk, hr => by
    obtain ⟨e1, h1, h2, h3⟩ := hs x List.mem_cons_self env h0
    rw [List.map_cons, forL, h1]
    cases hp : p x with
    | true =>
      obtain ⟨o, h4, e2, rfl, h5⟩ := h2 hp (fun o => ∃ e2, o = .nx e2 ∧ J e2) fun e h => ⟨e, rfl, h⟩
      have ih := wp_forAll p y0 J (l := l) (env := e2) h5 (fun y hy => hs y (List.mem_cons_of_mem _ hy)) (fun ha => hk (by rw [List.all_cons, hp, ha]; rfl)) (fun ha => hr (by rw [List.all_cons, hp, ha]; rfl))
      rw [Rs.noexc_ok, Rs.bind_ok, h4, Rs.bind_ok]
      exact ih
    | false =>
      rw [Rs.noexc_ok, Rs.bind_ok, h3 hp, Rs.bind_ok]
      exact ⟨_, rfl, hr (by rw [List.all_cons, hp]; rfl)⟩
theorem compM {β : Type} (f : α → β) (en2 : β → PV) (h : ∀ x ∈ l, ∃ e1, tgS tg (enc x) env = .ok e1 ∧ fe e1 = .ok (en2 (f x))) : compL (tgS tg) tYesD fe env (l.map enc) = .ok ((l.map f).map en2) := by
  rw [List.map_map]
  exact compL_map (g := tgS tg) (fe := fe) (env := env) enc (en2 ∘ f) l h
theorem wp_compM {β : Type} {K : List PV → Rs Out} (f : α → β) (en2 : β → PV) (h : ∀ x ∈ l, ∃ e1, tgS tg (enc x) env = .ok e1 ∧ fe e1 = .ok (en2 (f x))) (hk : Wp (thn (K ((l.map f).map en2)) g) P) : Wp (thn ((compL (tgS tg) tYesD fe env (l.map enc)).noexc.bind K) g) P := by
  rw [compM f en2 h]; exact hk
theorem wp_compMF {β : Type} {K : List PV → Rs Out} (p : α → Bool) (f : α → β) (en2 : β → PV) (h : ∀ x ∈ l, ∃ e1, tgS tg (enc x) env = .ok e1 ∧ tt e1 = .ok (p x) ∧ (p x = true → fe e1 = .ok (en2 (f x)))) (hk : Wp (thn (K (((l.filter p).map f).map en2)) g) P) : Wp (thn ((compL (tgS tg) tt fe env (l.map enc)).noexc.bind K) g) P := by
  have := compL_filter (g := tgS tg) (tt := tt) (fe := fe) (env := env) enc p (en2 ∘ f) l h
  rw [List.map_map] at hk
  rw [this]; exact hk
end
theorem rng0_map (n : Nat) : rng 0 (n : Int) = (List.range n).map fun k => PV.int (k : Nat) := rng_map n
@[simp] theorem bools_comp {α : Type} (f : α → Bool) (l : List α) : boolsOf (l.map (PV.bl ∘ f)) = some (l.map f) := by rw [← List.map_map, bools_map]
@[simp] theorem bools_lam {α : Type} (f : α → Bool) (l : List α) : boolsOf (l.map fun x => PV.bl (f x)) = some (l.map f) := bools_comp f l
@[simp] theorem ints_comp {α : Type} (f : α → Int) (l : List α) : intsOf (l.map (PV.int ∘ f)) = some (l.map f) := by rw [← List.map_map, ints_map]
@[simp] theorem ints_lam {α : Type} (f : α → Int) (l : List α) : intsOf (l.map fun x => PV.int (f x)) = some (l.map f) := ints_comp f l
@[simp] theorem bools_tab (x : Nat → Bool) (c : Nat) : boolsOf (tab c fun k => .bl (x k)) = some (tab c x) := by rw [← tab_map c x PV.bl, bools_map]
@[simp] theorem ints_tabS (x : Nat → Int) (c : Nat) : intsOf (tab c fun k => .int (x k)) = some (tab c x) := by rw [← tab_map c x PV.int, ints_map]
@[simp] theorem id_compB {α : Type} (f : α → Bool) : ((fun b : Bool => b) ∘ f) = f := rfl
end Pw

namespace Pw
/-! ### masks -/
theorem msk_iff {p S : Nat} : p &&& S = p ↔ ∀ k, p.testBit k = true → S.testBit k = true := by
  constructor
  · intro h k hk
    rw [← h, Nat.testBit_and, Bool.and_eq_true] at hk
    exact hk.2
  · intro h
    apply Nat.eq_of_testBit_eq
    intro k
    rw [Nat.testBit_and]
    cases hp : p.testBit k with
    | false => rfl
    | true => rw [h k hp]; rfl
theorem msk_half {p S : Nat} (h : p &&& S = p) : p / 2 &&& S / 2 = p / 2 := msk_iff.mpr fun k hk => by
  rw [← Nat.testBit_add_one] at hk ⊢
  exact msk_iff.mp h _ hk
theorem msk_sub : ∀ (k p S : Nat), p &&& S = p → (S - p).testBit k = (S.testBit k && !p.testBit k)
  | 0, p, S, h => by
    have h0 := msk_iff.mp h 0
    have hle : p ≤ S := by rw [← h]; exact Nat.and_le_right
    simp only [Nat.testBit_zero, decide_eq_true_eq] at h0 ⊢
    by_cases hp : p % 2 = 1
    · have := h0 hp
      have : (S - p) % 2 = 0 := by omega
      simp [hp, this]
    · by_cases hs : S % 2 = 1
      · have : (S - p) % 2 = 1 := by omega
        simp [hp, hs, this]
      · have : (S - p) % 2 = 0 := by omega
        simp [hp, hs, this]
  | k + 1, p, S, h => by
    have h0 := msk_iff.mp h 0
    have hle : p ≤ S := by rw [← h]; exact Nat.and_le_right
    simp only [Nat.testBit_zero, decide_eq_true_eq] at h0
    rw [Nat.testBit_add_one, Nat.testBit_add_one, Nat.testBit_add_one, ← msk_sub k (p / 2) (S / 2) (msk_half h)]
    congr 1
    by_cases hp : p % 2 = 1
    · have := h0 hp; omega
    · omega
theorem msk_one {S b : Nat} (h : S.testBit b = true) : 2 ^ b &&& S = 2 ^ b := msk_iff.mpr fun k hk => by
  rw [Nat.testBit_two_pow] at hk
  rw [← of_decide_eq_true hk]; exact h
/-- p within S, q within the rest -/
theorem msk_cut1 {S p q : Nat} (h : p &&& S = p) (h2 : q &&& (S - p) = q) : q &&& S = q := msk_iff.mpr fun k hk => by
  have := msk_iff.mp h2 k hk
  rw [msk_sub k p S h, Bool.and_eq_true] at this
  exact this.1
theorem msk_off {S p q k : Nat} (h : p &&& S = p) (h2 : q &&& (S - p) = q) (hk : q.testBit k = true) : p.testBit k = false := by
  have := msk_iff.mp h2 k hk
  rw [msk_sub k p S h, Bool.and_eq_true] at this
  simpa using this.2
theorem msk_cut2 {S p q : Nat} (h : p &&& S = p) (h2 : q &&& (S - p) = q) : p &&& (S - q) = p := msk_iff.mpr fun k hk => by
  rw [msk_sub k q S (msk_cut1 h h2), msk_iff.mp h k hk]
  cases hq : q.testBit k with
  | false => rfl
  | true => have := msk_off h h2 hq; rw [hk] at this; cases this
theorem msk_low {p b : Nat} : p &&& 2 ^ b = 2 ^ b ↔ p.testBit b = true := by
  constructor
  · intro h
    rw [Nat.and_comm] at h
    exact msk_iff.mp h b (by rw [Nat.testBit_two_pow]; exact decide_eq_true rfl)
  · intro h
    rw [Nat.and_comm]; exact msk_one h
theorem msk_up {S b q : Nat} (h : S.testBit b = true) (h2 : q &&& (S - 2 ^ b) = q) : q &&& S = q ∧ (S - q).testBit b = true := by
  have h1 := msk_one h
  refine ⟨msk_cut1 h1 h2, ?_⟩
  rw [msk_sub b q S (msk_cut1 h1 h2), h]
  cases hq : q.testBit b with
  | false => rfl
  | true =>
    have := msk_off h1 h2 hq
    rw [Nat.testBit_two_pow] at this
    exact absurd rfl (of_decide_eq_false this)
theorem msk_no {S b q : Nat} (h : S.testBit b = true) (h2 : q &&& S = q) (h3 : q.testBit b = false) : q &&& (S - 2 ^ b) = q ∧ (S - q).testBit b = true := by
  constructor
  · refine msk_iff.mpr fun k hk => ?_
    rw [msk_sub k _ S (msk_one h), msk_iff.mp h2 k hk, Nat.testBit_two_pow]
    by_cases e : b = k
    · subst e; rw [hk] at h3; cases h3
    · rw [decide_eq_false e]; rfl
  · rw [msk_sub b q S h2, h, h3]; rfl
theorem msk_off1 {U p c : Nat} (h : p &&& U = p) (hc : p.testBit c = true) : (p - 2 ^ c) &&& (U - 2 ^ c) = p - 2 ^ c := msk_iff.mpr fun k hk => by
  rw [msk_sub k _ p (msk_one hc), Bool.and_eq_true] at hk
  rw [msk_sub k _ U (msk_one (msk_iff.mp h c hc)), msk_iff.mp h k hk.1, hk.2]; rfl
/-! ### while -/
section
variable {c : Env → Rs Bool} {fb g : Env → Rs Out} {env : Env} {P : Out → Prop}
theorem while_ex (I : Nat → Env → Prop) (Q : Env → Prop) (hs : ∀ k e, I k e → ∃ b, c e = .ok b ∧ (b = true → ∃ k', k' < k ∧ Nx (I k') (fb e)) ∧ (b = false → Q e)) : ∀ (m k : Nat), k ≤ m → ∀ e, I k e → ∃ e', whileN c fb (m + 1) e = .ok (.nx e') ∧ Q e' := by
  intro m
  induction m with
  | zero =>
    intro k hk e hI
    obtain ⟨b, h1, h2, h3⟩ := hs k e hI
    rw [whileN, h1, Rs.bind_ok]
    cases b with
    | true => obtain ⟨k', hk', _⟩ := h2 rfl; omega
    | false => exact ⟨e, rfl, h3 rfl⟩
  | succ m ih =>
    intro k hk e hI
    obtain ⟨b, h1, h2, h3⟩ := hs k e hI
    rw [whileN, h1, Rs.bind_ok]
    cases b with
    | true =>
      obtain ⟨k', hk', hn⟩ := h2 rfl
      obtain ⟨o, h4, e2, rfl, h5⟩ := hn (fun o => ∃ e2, o = .nx e2 ∧ I k' e2) fun e h => ⟨e, rfl, h⟩
      rw [if_pos rfl, h4, Rs.bind_ok]
      exact ih k' (by omega) e2 h5
    | false => exact ⟨e, rfl, h3 rfl⟩
theorem wp_while (I : Nat → Env → Prop) {k : Nat} (h0 : I k env) (hs : ∀ k e, I k e → ∃ b, c e = .ok b ∧ (b = true → ∃ k', k' < k ∧ Nx (I k') (fb e)) ∧ (b = false → Wp (g e) P)) : Wp (thn (sWhile c fb env) g) P := by
  obtain ⟨e, h1, h2⟩ := while_ex I (fun e => Wp (g e) P) hs k k (Nat.le_refl _) env h0
  rw [sWhile_ok h1]; exact h2
end
end Pw

namespace Pw.K66
open PySem L2 Pw
/-! ### the text by places -/
def top (i : Nat) : Stmt := PySem.Challenge.pw_ridesshared_k66_whole_fewest_payments.main.body.getD i (.Pass ⟨0, 0, 0, 0⟩)
structure Tx (mg : Str → Option Value) : Prop where
  z_all : mg "all" = none
  z_any : mg "any" = none
  z_bool : mg "bool" = none
  z_int : mg "int" = none
  z_isinstance : mg "isinstance" = none
  z_len : mg "len" = none
  z_list : mg "list" = none
  z_max : mg "max" = none
  z_min : mg "min" = none
  z_range : mg "range" = none
  z_reversed : mg "reversed" = none
  z_str : mg "str" = none
  z_sum : mg "sum" = none
  z_tuple : mg "tuple" = none
/-! #### riders_in -/
abbrev s_riders_in : Stmt := top 1
abbrev N_riders_in : List Str := ["group", "found", "rider"]
abbrev ps_riders_in : List Str := ["group"]
noncomputable abbrev b_riders_in := Pw.Lib.b_riders_in
noncomputable abbrev d_riders_in := Pw.Lib.d_riders_in
/-! #### alone -/
abbrev s_alone : Stmt := top 2
abbrev N_alone : List Str := ["rider", "found", "_"]
abbrev ps_alone : List Str := ["rider"]
noncomputable def lp1_alone : Env → Rs Out := (sSeq (sSet 1 (eOp oMul (eC (.int 2)) (eV 1))) sNil)
@[simp] noncomputable def k1_alone (env : Env) : Rs Out := (sSeq (sRet (eV 1)) sNil) env
noncomputable def b_alone : Env → Rs Out := (sSeq (sSet 1 (eC (.int 1))) (sSeq (sFor (iR (aCons (eV 0) aNil)) (.n 2) lp1_alone) k1_alone))
noncomputable def d_alone : List PV → Rs PV := runB 0 3 b_alone
/-! #### after_payments -/
abbrev s_after_payments : Stmt := top 4
abbrev N_after_payments : List Str := ["balances", "payments", "found", "giver", "taker", "cents"]
abbrev ps_after_payments : List Str := ["balances", "payments"]
noncomputable def lp1_after_payments : Env → Rs Out := (sSeq (sPutA 2 ioAdd (eV 3) (eV 5)) (sSeq (sPutA 2 oSub (eV 4) (eV 5)) sNil))
@[simp] noncomputable def k1_after_payments (env : Env) : Rs Out := (sSeq (sRet (eV 2)) sNil) env
noncomputable def b_after_payments : Env → Rs Out := (sSeq (sSet 2 (eCall oList (aCons (eV 0) aNil))) (sSeq (sFor (iE (eV 1)) (.t [(.n 3), (.n 4), (.n 5)]) lp1_after_payments) k1_after_payments))
noncomputable def d_after_payments : List PV → Rs PV := runB 0 6 b_after_payments
/-! #### is_payment -/
abbrev s_is_payment : Stmt := top 5
abbrev N_is_payment : List Str := ["count", "giver", "taker", "cents"]
abbrev ps_is_payment : List Str := ["count", "giver", "taker", "cents"]
noncomputable def b_is_payment : Env → Rs Out := (sSeq (sRet (eAnd (eChain oLe oLt (eC (.int 0)) (eV 1) (eV 0)) (eAnd (eChain oLe oLt (eC (.int 0)) (eV 2) (eV 0)) (eAnd (eOp oNe (eV 1) (eV 2)) (eOp oGe (eV 3) (eC (.int 1))))))) sNil)
noncomputable def d_is_payment : List PV → Rs PV := runB 0 4 b_is_payment
/-! #### settles -/
abbrev s_settles : Stmt := top 6
abbrev N_settles : List Str := ["balances", "payments", "giver", "taker", "cents", "balance"]
abbrev ps_settles : List Str := ["balances", "payments"]
noncomputable def b_settles : Env → Rs Out := (sSeq (sIf (tNotD (eTru (eCall oAll (aCons (eLc [2, 3, 4] (iE (eV 1)) (.t [(.n 2), (.n 3), (.n 4)]) tYesD (eFun d_is_payment (aCons (eCall oLen (aCons (eV 0) aNil)) (aCons (eV 2) (aCons (eV 3) (aCons (eV 4) aNil)))))) aNil)))) (sSeq (sRet (eC (.bl false))) sNil) sNil) (sSeq (sRet (eNot (eCall oAny (aCons (eLc [5] (iE (eFun d_after_payments (aCons (eV 0) (aCons (eV 1) aNil)))) (.n 5) tYesD (eOp oNe (eV 5) (eC (.int 0)))) aNil)))) sNil))
noncomputable def d_settles : List PV → Rs PV := runB 0 6 b_settles
/-! #### plain_payments -/
abbrev s_plain_payments : Stmt := top 7
abbrev N_plain_payments : List Str := ["balances", "left", "found", "giver", "taker", "payment"]
abbrev ps_plain_payments : List Str := ["balances"]
noncomputable def lp1_plain_payments : Env → Rs Out := (sSeq (sSet 3 (eMth oIndex (eV 1) (aCons (eCall oMin (aCons (eV 1) aNil)) aNil))) (sSeq (sSet 4 (eMth oIndex (eV 1) (aCons (eCall oMax (aCons (eV 1) aNil)) aNil))) (sSeq (sSet 5 (eTup (aCons (eV 3) (aCons (eV 4) (aCons (eCall oMin (aCons (eNeg (eOp oIx (eV 1) (eV 3))) (aCons (eOp oIx (eV 1) (eV 4)) aNil))) aNil))))) (sSeq (sApp 2 (eV 5)) (sSeq (sSet 1 (eFun d_after_payments (aCons (eV 1) (aCons (eLst (aCons (eV 5) aNil)) aNil)))) sNil)))))
@[simp] noncomputable def k1_plain_payments (env : Env) : Rs Out := (sSeq (sRet (eV 2)) sNil) env
noncomputable def b_plain_payments : Env → Rs Out := (sSeq (sSet 1 (eCall oList (aCons (eV 0) aNil))) (sSeq (sSet 2 (eLst aNil)) (sSeq (sWhile (eT (eOp oGt (eCall oMax (aCons (eV 1) aNil)) (eC (.int 0)))) lp1_plain_payments) k1_plain_payments)))
noncomputable def d_plain_payments : List PV → Rs PV := runB 0 6 b_plain_payments
/-! #### sum_in -/
abbrev s_sum_in : Stmt := top 9
abbrev N_sum_in : List Str := ["balances", "some", "person"]
abbrev ps_sum_in : List Str := ["balances", "some"]
noncomputable def b_sum_in : Env → Rs Out := (sSeq (sRet (eCall oSum (aCons (eLc [2] (iE (eFun d_riders_in (aCons (eV 1) aNil))) (.n 2) tYesD (eOp oIx (eV 0) (eV 2))) aNil))) sNil)
noncomputable def d_sum_in : List PV → Rs PV := runB 0 3 b_sum_in
/-! #### gain_of -/
abbrev s_gain_of : Stmt := top 10
abbrev N_gain_of : List Str := ["balances", "some"]
abbrev ps_gain_of : List Str := ["balances", "some"]
noncomputable def b_gain_of : Env → Rs Out := (sSeq (sRet (eCall oInt (aCons (eOp oEq (eFun d_sum_in (aCons (eV 0) (aCons (eV 1) aNil))) (eC (.int 0))) aNil))) sNil)
noncomputable def d_gain_of : List PV → Rs PV := runB 0 2 b_gain_of
/-! #### smallest_labels -/
abbrev s_smallest_labels : Stmt := top 11
abbrev N_smallest_labels : List Str := ["balances", "labels", "some", "before", "person"]
abbrev ps_smallest_labels : List Str := ["balances"]
noncomputable def lp1_smallest_labels : Env → Rs Out := (sSeq (sSet 3 (eCall oMax (aCons (eLc [4] (iE (eFun d_riders_in (aCons (eV 2) aNil))) (.n 4) tYesD (eOp oIx (eV 1) (eOp oSub (eV 2) (eFun d_alone (aCons (eV 4) aNil))))) aNil))) (sSeq (sApp 1 (eOp oAdd (eV 3) (eFun d_gain_of (aCons (eV 0) (aCons (eV 2) aNil))))) sNil))
@[simp] noncomputable def k1_smallest_labels (env : Env) : Rs Out := (sSeq (sRet (eV 1)) sNil) env
noncomputable def b_smallest_labels : Env → Rs Out := (sSeq (sSet 1 (eLst (aCons (eC (.int 0)) aNil))) (sSeq (sFor (iR (aCons (eC (.int 1)) (aCons (eFun d_alone (aCons (eCall oLen (aCons (eV 0) aNil)) aNil)) aNil))) (.n 2) lp1_smallest_labels) k1_smallest_labels))
noncomputable def d_smallest_labels : List PV → Rs PV := runB 0 5 b_smallest_labels
/-! #### dividing_order -/
abbrev s_dividing_order : Stmt := top 12
abbrev N_dividing_order : List Str := ["balances", "labels", "some", "found", "due", "person", "one"]
abbrev ps_dividing_order : List Str := ["balances", "labels"]
noncomputable def lp1_dividing_order : Env → Rs Out := (sSeq (sSet 4 (eOp oSub (eOp oIx (eV 1) (eV 2)) (eFun d_gain_of (aCons (eV 0) (aCons (eV 2) aNil))))) (sSeq (sSet 5 (eOp oIx (eLc [6] (iE (eFun d_riders_in (aCons (eV 2) aNil))) (.n 6) (eT (eOp oEq (eOp oIx (eV 1) (eOp oSub (eV 2) (eFun d_alone (aCons (eV 6) aNil)))) (eV 4))) (eV 6)) (eC (.int 0)))) (sSeq (sApp 3 (eV 5)) (sSeq (sAug 2 oSub (eFun d_alone (aCons (eV 5) aNil))) sNil))))
@[simp] noncomputable def k1_dividing_order (env : Env) : Rs Out := (sSeq (sRet (eRev (eV 3))) sNil) env
noncomputable def b_dividing_order : Env → Rs Out := (sSeq (sSet 2 (eOp oSub (eCall oLen (aCons (eV 1) aNil)) (eC (.int 1)))) (sSeq (sSet 3 (eLst aNil)) (sSeq (sWhile (eT (eOp oGt (eV 2) (eC (.int 0)))) lp1_dividing_order) k1_dividing_order)))
noncomputable def d_dividing_order : List PV → Rs PV := runB 0 7 b_dividing_order
/-! #### payments_along -/
abbrev s_payments_along : Stmt := top 13
abbrev N_payments_along : List Str := ["balances", "order", "found", "owed", "place"]
abbrev ps_payments_along : List Str := ["balances", "order"]
noncomputable def lp1_payments_along : Env → Rs Out := (sSeq (sAug 3 ioAdd (eOp oIx (eV 0) (eOp oIx (eV 1) (eV 4)))) (sSeq (sIf (eT (eOp oGt (eV 3) (eC (.int 0)))) (sSeq (sApp 2 (eTup (aCons (eOp oIx (eV 1) (eOp oAdd (eV 4) (eC (.int 1)))) (aCons (eOp oIx (eV 1) (eV 4)) (aCons (eV 3) aNil))))) sNil) (sSeq (sIf (eT (eOp oLt (eV 3) (eC (.int 0)))) (sSeq (sApp 2 (eTup (aCons (eOp oIx (eV 1) (eV 4)) (aCons (eOp oIx (eV 1) (eOp oAdd (eV 4) (eC (.int 1)))) (aCons (eNeg (eV 3)) aNil))))) sNil) sNil) sNil)) sNil))
@[simp] noncomputable def k1_payments_along (env : Env) : Rs Out := (sSeq (sRet (eV 2)) sNil) env
noncomputable def b_payments_along : Env → Rs Out := (sSeq (sSet 2 (eLst aNil)) (sSeq (sSet 3 (eC (.int 0))) (sSeq (sFor (iR (aCons (eOp oSub (eCall oLen (aCons (eV 1) aNil)) (eC (.int 1))) aNil)) (.n 4) lp1_payments_along) k1_payments_along)))
noncomputable def d_payments_along : List PV → Rs PV := runB 0 5 b_payments_along
/-! #### fewest_payments -/
abbrev s_fewest_payments : Stmt := top 14
abbrev N_fewest_payments : List Str := ["balances", "labels"]
abbrev ps_fewest_payments : List Str := ["balances"]
noncomputable def b_fewest_payments : Env → Rs Out := (sSeq (sSet 1 (eFun d_smallest_labels (aCons (eV 0) aNil))) (sSeq (sRet (eTup (aCons (eFun d_payments_along (aCons (eV 0) (aCons (eFun d_dividing_order (aCons (eV 0) (aCons (eV 1) aNil))) aNil))) (aCons (eV 1) aNil)))) sNil))
noncomputable def d_fewest_payments : List PV → Rs PV := runB 0 2 b_fewest_payments
/-! #### labels_fit -/
abbrev s_labels_fit : Stmt := top 15
abbrev N_labels_fit : List Str := ["balances", "labels", "some", "gain", "person"]
abbrev ps_labels_fit : List Str := ["balances", "labels"]
noncomputable def lp1_labels_fit : Env → Rs Out := (sSeq (sSet 3 (eFun d_gain_of (aCons (eV 0) (aCons (eV 2) aNil)))) (sSeq (sIf (eTru (eCall oAny (aCons (eLc [4] (iE (eFun d_riders_in (aCons (eV 2) aNil))) (.n 4) tYesD (eOp oLt (eOp oIx (eV 1) (eV 2)) (eOp oAdd (eOp oIx (eV 1) (eOp oSub (eV 2) (eFun d_alone (aCons (eV 4) aNil)))) (eV 3)))) aNil))) (sSeq (sRet (eC (.bl false))) sNil) sNil) sNil))
@[simp] noncomputable def k1_labels_fit (env : Env) : Rs Out := (sSeq (sRet (eC (.bl true))) sNil) env
noncomputable def b_labels_fit : Env → Rs Out := (sSeq (sIf (tOrD (eT (eOp oNe (eCall oLen (aCons (eV 1) aNil)) (eFun d_alone (aCons (eCall oLen (aCons (eV 0) aNil)) aNil)))) (eT (eOp oNe (eOp oIx (eV 1) (eC (.int 0))) (eC (.int 0))))) (sSeq (sRet (eC (.bl false))) sNil) sNil) (sSeq (sFor (iR (aCons (eC (.int 1)) (aCons (eCall oLen (aCons (eV 1) aNil)) aNil))) (.n 2) lp1_labels_fit) k1_labels_fit))
noncomputable def d_labels_fit : List PV → Rs PV := runB 0 5 b_labels_fit
/-! #### judge_fewest -/
abbrev s_judge_fewest : Stmt := top 16
abbrev N_judge_fewest : List Str := ["balances", "paper", "payments", "labels"]
abbrev ps_judge_fewest : List Str := ["balances", "paper"]
noncomputable def b_judge_fewest : Env → Rs Out := (sSeq (sIf (eT (eOp oNe (eCall oLen (aCons (eV 1) aNil)) (eC (.int 2)))) (sSeq (sRet (eC (.bl false))) sNil) sNil) (sSeq (sTgt (.t [(.n 2), (.n 3)]) (eV 1)) (sSeq (sIf (tOrD (tNotD (eTru (eFun d_settles (aCons (eV 0) (aCons (eV 2) aNil))))) (tNotD (eTru (eFun d_labels_fit (aCons (eV 0) (aCons (eV 3) aNil)))))) (sSeq (sRet (eC (.bl false))) sNil) sNil) (sSeq (sRet (eOp oEq (eCall oLen (aCons (eV 2) aNil)) (eOp oSub (eCall oLen (aCons (eV 0) aNil)) (eOp oIx (eV 3) (eNeg (eC (.int 1))))))) sNil))))
noncomputable def d_judge_fewest : List PV → Rs PV := runB 0 4 b_judge_fewest
/-! #### _law_draws -/
abbrev s_law_draws : Stmt := top 18
abbrev N_law_draws : List Str := ["script", "at", "count", "cell", "by_digits", "found", "k", "mixed"]
abbrev ps_law_draws : List Str := ["script", "at", "count"]
noncomputable abbrev b_law_draws := Pw.Lib.b_law_draws_b
noncomputable abbrev d_law_draws := Pw.Lib.d_law_draws_b
/-! #### _law_like -/
abbrev s_law_like : Stmt := top 19
abbrev N_law_like : List Str := ["told", "due", "k"]
abbrev ps_law_like : List Str := ["told", "due"]
noncomputable abbrev b_law_like := Pw.Lib.b_law_like
noncomputable abbrev d_law_like := Pw.Lib.d_law_like
noncomputable abbrev d_law_likeN := Pw.Lib.d_law_likeN
/-! #### _law_is_number -/
abbrev s_law_is_number : Stmt := top 20
abbrev N_law_is_number : List Str := ["value"]
abbrev ps_law_is_number : List Str := ["value"]
noncomputable abbrev b_law_is_number := Pw.Lib.b_is_whole
noncomputable abbrev d_law_is_number := Pw.Lib.d_is_whole
/-! #### _law_numbers -/
abbrev s_law_numbers : Stmt := top 21
abbrev N_law_numbers : List Str := ["value", "one"]
abbrev ps_law_numbers : List Str := ["value"]
noncomputable def b_law_numbers : Env → Rs Out := (sSeq (sIf (tNotD (eTru (eIsi "list" (eV 0)))) (sSeq (sRet (eC (.bl false))) sNil) sNil) (sSeq (sRet (eOp oEq (eCall oLen (aCons (eLc [1] (iE (eV 0)) (.n 1) (tNotD (eTru (eFun d_law_is_number (aCons (eV 1) aNil)))) (eV 1)) aNil)) (eC (.int 0)))) sNil))
noncomputable def d_law_numbers : List PV → Rs PV := runB 0 2 b_law_numbers
/-! #### _law_power -/
abbrev s_law_power : Stmt := top 22
abbrev N_law_power : List Str := ["count", "found", "turn"]
abbrev ps_law_power : List Str := ["count"]
noncomputable abbrev b_law_power := Pw.Lib.b_law_power_b
noncomputable abbrev d_law_power := Pw.Lib.d_law_power_b
/-! #### _law_members -/
abbrev s_law_members : Stmt := top 23
abbrev N_law_members : List Str := ["some", "count", "k"]
abbrev ps_law_members : List Str := ["some", "count"]
noncomputable def b_law_members : Env → Rs Out := (sSeq (sRet (eLc [2] (iR (aCons (eV 1) aNil)) (.n 2) (eT (eOp oEq (eOp oMod (eCall oInt (aCons (eOp oDiv (eV 0) (eFun d_law_power (aCons (eV 2) aNil))) aNil)) (eC (.int 2))) (eC (.int 1)))) (eV 2))) sNil)
noncomputable def d_law_members : List PV → Rs PV := runB 0 3 b_law_members
/-! #### _law_sum_in -/
abbrev s_law_sum_in : Stmt := top 24
abbrev N_law_sum_in : List Str := ["balances", "some", "k"]
abbrev ps_law_sum_in : List Str := ["balances", "some"]
noncomputable def b_law_sum_in : Env → Rs Out := (sSeq (sRet (eCall oSum (aCons (eLc [2] (iE (eFun d_law_members (aCons (eV 1) (aCons (eCall oLen (aCons (eV 0) aNil)) aNil)))) (.n 2) tYesD (eOp oIx (eV 0) (eV 2))) aNil))) sNil)
noncomputable def d_law_sum_in : List PV → Rs PV := runB 0 3 b_law_sum_in
/-! #### _law_after -/
abbrev s_law_after : Stmt := top 25
abbrev N_law_after : List Str := ["balances", "payments", "found", "giver", "taker", "cents"]
abbrev ps_law_after : List Str := ["balances", "payments"]
noncomputable def lp1_law_after : Env → Rs Out := (sSeq (sPut 2 (eV 3) (eOp oAdd (eOp oIx (eV 2) (eV 3)) (eV 5))) (sSeq (sPut 2 (eV 4) (eOp oSub (eOp oIx (eV 2) (eV 4)) (eV 5))) sNil))
@[simp] noncomputable def k1_law_after (env : Env) : Rs Out := (sSeq (sRet (eV 2)) sNil) env
noncomputable def b_law_after : Env → Rs Out := (sSeq (sSet 2 (eCall oList (aCons (eV 0) aNil))) (sSeq (sFor (iE (eV 1)) (.t [(.n 3), (.n 4), (.n 5)]) lp1_law_after) k1_law_after))
noncomputable def d_law_after : List PV → Rs PV := runB 0 6 b_law_after
/-! #### _law_settled -/
abbrev s_law_settled : Stmt := top 26
abbrev N_law_settled : List Str := ["balances", "payments", "giver", "taker", "cents", "one"]
abbrev ps_law_settled : List Str := ["balances", "payments"]
noncomputable def lp1_law_settled : Env → Rs Out := (sSeq (sIf (tOrD (eT (eOp oLt (eCall oMin (aCons (eV 2) (aCons (eV 3) aNil))) (eC (.int 0)))) (tOrD (eT (eOp oGe (eCall oMax (aCons (eV 2) (aCons (eV 3) aNil))) (eCall oLen (aCons (eV 0) aNil)))) (tOrD (eT (eOp oEq (eV 2) (eV 3))) (eT (eOp oLt (eV 4) (eC (.int 1))))))) (sSeq (sRet (eC (.bl false))) sNil) sNil) sNil)
@[simp] noncomputable def k1_law_settled (env : Env) : Rs Out := (sSeq (sRet (eOp oEq (eCall oLen (aCons (eLc [5] (iE (eFun d_law_after (aCons (eV 0) (aCons (eV 1) aNil)))) (.n 5) (eT (eOp oNe (eV 5) (eC (.int 0)))) (eV 5)) aNil)) (eC (.int 0)))) sNil) env
noncomputable def b_law_settled : Env → Rs Out := (sSeq (sFor (iE (eV 1)) (.t [(.n 2), (.n 3), (.n 4)]) lp1_law_settled) k1_law_settled)
noncomputable def d_law_settled : List PV → Rs PV := runB 0 6 b_law_settled
/-! #### _law_fewest_balances -/
abbrev s_law_fewest_balances : Stmt := top 27
abbrev N_law_fewest_balances : List Str := ["script", "most", "picks", "count", "small", "found", "pick", "k"]
abbrev ps_law_fewest_balances : List Str := ["script", "most"]
noncomputable def lp1_law_fewest_balances : Env → Rs Out := (sSeq (sPut 5 (eV 7) (eOp oSub (eC (.int 0)) (eOp oIx (eV 5) (eOp oSub (eV 7) (eC (.int 1)))))) sNil)
noncomputable def b_law_fewest_balances : Env → Rs Out := (sSeq (sSet 2 (eFun d_law_draws (aCons (eV 0) (aCons (eC (.int 0)) (aCons (eC (.int 12)) aNil))))) (sSeq (sSet 3 (eOp oAdd (eC (.int 1)) (eOp oMod (eOp oIx (eV 2) (eC (.int 0))) (eV 1)))) (sSeq (sSet 4 (eOp oIx (eLst (aCons (eC (.int 3)) (aCons (eC (.int 5)) (aCons (eC (.int 40)) (aCons (eC (.int 5040)) aNil))))) (eOp oMod (eOp oIx (eV 2) (eC (.int 1))) (eC (.int 4))))) (sSeq (sSet 5 (eLc [6] (iE (eSl (eV 2) (pSome (eC (.int 3))) (pSome (eOp oAdd (eC (.int 3)) (eV 3))))) (.n 6) tYesD (eOp oMul (eOp oSub (eOp oMod (eV 6) (eV 4)) (eOp oDiv (eV 4) (eC (.int 2)))) (eOp oIx (eLst (aCons (eC (.int 1)) (aCons (eC (.int 1)) (aCons (eOp oPow (eC (.int 10)) (eC (.int 9))) aNil)))) (eOp oMod (eOp oIx (eV 2) (eC (.int 2))) (eC (.int 3))))))) (sSeq (sIf (eT (eOp oEq (eOp oMod (eOp oIx (eV 2) (eC (.int 11))) (eC (.int 2))) (eC (.int 1)))) (sSeq (sFor (iR3 (aCons (eC (.int 1)) (aCons (eV 3) (aCons (eC (.int 2)) aNil)))) (.n 7) lp1_law_fewest_balances) sNil) sNil) (sSeq (sRet (eOp oAdd (eSl (eV 5) (pSome (eC (.int 0))) (pSome (eOp oSub (eV 3) (eC (.int 1))))) (eLst (aCons (eOp oSub (eC (.int 0)) (eCall oSum (aCons (eSl (eV 5) (pSome (eC (.int 0))) (pSome (eOp oSub (eV 3) (eC (.int 1))))) aNil))) aNil)))) sNil))))))
noncomputable def d_law_fewest_balances : List PV → Rs PV := runB 0 8 b_law_fewest_balances
/-! #### _law_most_parts -/
abbrev s_law_most_parts : Stmt := top 28
abbrev N_law_most_parts : List Str := ["balances", "zero", "some", "found", "low", "best", "part"]
abbrev ps_law_most_parts : List Str := ["balances"]
noncomputable def lp2_law_most_parts : Env → Rs Out := (sSeq (sIf (tAndD (eT (eOp oEq (eOp oAnd (eV 6) (eV 2)) (eV 6))) (tAndD (eT (eOp oEq (eOp oAnd (eV 6) (eV 4)) (eV 4))) (eT (eOp oGt (eOp oAdd (eOp oIx (eOp oIx (eV 3) (eOp oSub (eV 2) (eV 6))) (eC (.int 0))) (eC (.int 1))) (eOp oIx (eV 5) (eC (.int 0))))))) (sSeq (sSet 5 (eTup (aCons (eOp oAdd (eOp oIx (eOp oIx (eV 3) (eOp oSub (eV 2) (eV 6))) (eC (.int 0))) (eC (.int 1))) (aCons (eOp oAdd (eOp oIx (eOp oIx (eV 3) (eOp oSub (eV 2) (eV 6))) (eC (.int 1))) (eLst (aCons (eV 6) aNil))) aNil)))) sNil) sNil) sNil)
@[simp] noncomputable def k2_law_most_parts (env : Env) : Rs Out := (sSeq (sApp 3 (eV 5)) sNil) env
noncomputable def lp1_law_most_parts : Env → Rs Out := (sSeq (sSet 4 (eFun d_law_power (aCons (eOp oIx (eFun d_law_members (aCons (eV 2) (aCons (eCall oLen (aCons (eV 0) aNil)) aNil))) (eC (.int 0))) aNil))) (sSeq (sSet 5 (eOp oIx (eV 3) (eOp oSub (eV 2) (eV 4)))) (sSeq (sFor (iE (eV 1)) (.n 6) lp2_law_most_parts) k2_law_most_parts)))
@[simp] noncomputable def k1_law_most_parts (env : Env) : Rs Out := (sSeq (sRet (eV 3)) sNil) env
noncomputable def b_law_most_parts : Env → Rs Out := (sSeq (sSet 1 (eLc [2] (iR (aCons (eC (.int 1)) (aCons (eFun d_law_power (aCons (eCall oLen (aCons (eV 0) aNil)) aNil)) aNil))) (.n 2) (eT (eOp oEq (eFun d_law_sum_in (aCons (eV 0) (aCons (eV 2) aNil))) (eC (.int 0)))) (eV 2))) (sSeq (sSet 3 (eLst (aCons (eTup (aCons (eC (.int 0)) (aCons (eLst aNil) aNil))) aNil))) (sSeq (sFor (iR (aCons (eC (.int 1)) (aCons (eFun d_law_power (aCons (eCall oLen (aCons (eV 0) aNil)) aNil)) aNil))) (.n 2) lp1_law_most_parts) k1_law_most_parts)))
noncomputable def d_law_most_parts : List PV → Rs PV := runB 0 7 b_law_most_parts
/-! #### law -/
abbrev s_law : Stmt := top 29
abbrev N_law : List Str := ["script", "balances", "count", "handed", "told", "parts", "one", "payment", "divided", "again"]
abbrev ps_law : List Str := ["script"]
noncomputable def lp1_law : Env → Rs Out := (sSeq (sIf (tOrD (tNotD (eTru (eIsi "tuple" (eV 7)))) (tOrD (eT (eOp oNe (eCall oLen (aCons (eV 7) aNil)) (eC (.int 3)))) (tNotD (eTru (eFun d_law_numbers (aCons (eCall oList (aCons (eV 7) aNil)) aNil)))))) (sSeq (sRet (eC (.bl false))) sNil) sNil) sNil)
@[simp] noncomputable def k1_law (env : Env) : Rs Out := (sSeq (sSet 8 (eOp oIx (eV 5) (eOp oSub (eCall oLen (aCons (eV 5) aNil)) (eC (.int 1))))) (sSeq (sIf (tOrD (eT (eOp oNe (eCall oSum (aCons (eOp oIx (eV 8) (eC (.int 1))) aNil)) (eOp oSub (eCall oLen (aCons (eV 5) aNil)) (eC (.int 1))))) (eT (eOp oNe (eCall oLen (aCons (eOp oIx (eV 4) (eC (.int 0))) aNil)) (eOp oSub (eV 2) (eOp oIx (eV 8) (eC (.int 0))))))) (sSeq (sRet (eC (.bl false))) sNil) sNil) (sSeq (sIf (tOrD (tNotD (eTru (eFun d_law_settled (aCons (eV 1) (aCons (eOp oIx (eV 4) (eC (.int 0))) aNil))))) (eT (eOp oIsNot (eFun d_settles (aCons (eV 1) (aCons (eOp oIx (eV 4) (eC (.int 0))) aNil))) (eC (.bl true))))) (sSeq (sRet (eC (.bl false))) sNil) sNil) (sSeq (sIf (tOrD (eT (eOp oIsNot (eFun d_judge_fewest (aCons (eV 1) (aCons (eV 4) aNil))) (eC (.bl true)))) (tNotD (eTru (eFun d_law_like (aCons (eV 3) (aCons (eV 1) aNil)))))) (sSeq (sRet (eC (.bl false))) sNil) sNil) (sSeq (sIf (eT (eOp oLt (eCall oLen (aCons (eFun d_plain_payments (aCons (eV 1) aNil)) aNil)) (eCall oLen (aCons (eOp oIx (eV 4) (eC (.int 0))) aNil)))) (sSeq (sRet (eC (.bl false))) sNil) sNil) (sSeq (sSet 9 (eFun d_fewest_payments (aCons (eLc [6] (iE (eV 1)) (.n 6) tYesD (eOp oSub (eC (.int 0)) (eV 6))) aNil))) (sSeq (sRet (eAnd (eFun d_law_like (aCons (eOp oIx (eV 9) (eC (.int 1))) (aCons (eOp oIx (eV 4) (eC (.int 1))) aNil))) (eOp oEq (eCall oLen (aCons (eOp oIx (eV 9) (eC (.int 0))) aNil)) (eCall oLen (aCons (eOp oIx (eV 4) (eC (.int 0))) aNil))))) sNil))))))) env
noncomputable def b_law : Env → Rs Out := (sSeq (sSet 1 (eFun d_law_fewest_balances (aCons (eV 0) (aCons (eC (.int 6)) aNil)))) (sSeq (sSet 2 (eCall oLen (aCons (eV 1) aNil))) (sSeq (sSet 3 (eCall oList (aCons (eV 1) aNil))) (sSeq (sSet 4 (eFun d_fewest_payments (aCons (eV 3) aNil))) (sSeq (sIf (tOrD (tNotD (eTru (eIsi "tuple" (eV 4)))) (tOrD (eT (eOp oNe (eCall oLen (aCons (eV 4) aNil)) (eC (.int 2)))) (tOrD (tNotD (eTru (eIsi "list" (eOp oIx (eV 4) (eC (.int 0)))))) (tNotD (eTru (eFun d_law_like (aCons (eV 3) (aCons (eV 1) aNil)))))))) (sSeq (sRet (eC (.bl false))) sNil) sNil) (sSeq (sSet 5 (eFun d_law_most_parts (aCons (eV 1) aNil))) (sSeq (sIf (tNotD (eTru (eFun d_law_like (aCons (eOp oIx (eV 4) (eC (.int 1))) (aCons (eLc [6] (iE (eV 5)) (.n 6) tYesD (eOp oIx (eV 6) (eC (.int 0)))) aNil))))) (sSeq (sRet (eC (.bl false))) sNil) sNil) (sSeq (sFor (iE (eOp oIx (eV 4) (eC (.int 0)))) (.n 7) lp1_law) k1_law))))))))
noncomputable def d_law : List PV → Rs PV := runB 0 10 b_law
end Pw.K66

namespace Pw.K66
open PySem L2 Pw
abbrev Pay := Int × Int × Int
def penc (p : Pay) : PV := .tup [.int p.1, .int p.2.1, .int p.2.2]
def ok1 (n : Nat) (p : Pay) : Bool := decide (0 ≤ p.1 ∧ p.1 < n ∧ 0 ≤ p.2.1 ∧ p.2.1 < n ∧ p.1 ≠ p.2.1 ∧ 1 ≤ p.2.2)
def st1 (F : Nat → Int) (p : Pay) : Nat → Int := fun j => if j = p.1.toNat then F p.1.toNat + p.2.2 else F j
def st2 (F : Nat → Int) (p : Pay) : Nat → Int := fun j => if j = p.2.1.toNat then st1 F p p.2.1.toNat - p.2.2 else st1 F p j
def aft (F : Nat → Int) (l : List Pay) : Nat → Int := l.foldl st2 F
theorem aft_take {F : Nat → Int} {l : List Pay} {k : Nat} {p : Pay} (h : l[k]? = some p) : aft F (l.take (k + 1)) = st2 (aft F (l.take k)) p := by
  unfold aft
  rw [List.take_add_one, h, List.foldl_append]; rfl
theorem st2_tab (n : Nat) (F : Nat → Int) (c : Int) {g t : Nat} (hne : ¬ t = g) : (tab n fun j => PV.int (st2 F ((g : Int), (t : Int), c) j)) = tab n fun j => if j = t then PV.int (F t - c) else if j = g then PV.int (F g + c) else PV.int (F j) := tab_ext fun j _ => by
  simp only [st2, st1, Int.toNat_natCast, hne, if_false]
  by_cases hj : j = t
  · simp [hj]
  · by_cases hj2 : j = g
    · subst hj2; simp [hj]
    · simp [hj, hj2]
section
variable {n : Nat} {B : Nat → Int} {l : List Pay}
theorem e_after (hl : ∀ p ∈ l, ok1 n p = true) : d_after_payments [.lst (tab n fun k => .int (B k)), .lst (l.map penc)] = .ok (.lst (tab n fun k => .int (aft B l k))) := by
  refine wp_run fun P hP => ?_
  simp [b_after_payments]
  refine wp_forM (fun k e => ∃ x3 x4 x5, e = [some (.lst (tab n fun k => .int (B k))), some (.lst (l.map penc)), some (.lst (tab n fun j => .int (aft B (l.take k) j))), x3, x4, x5]) ⟨none, none, none, by simp [aft]⟩ ?_ ?_
  · rintro k ⟨g, t, c⟩ e hp ⟨x3, x4, x5, rfl⟩
    refine ⟨_, rfl, fun P hP => ?_⟩
    have ho := of_decide_eq_true (hl _ (List.mem_of_getElem? hp))
    simp only at ho
    obtain ⟨h1, h2, h3, h4, h5, h6⟩ := ho
    rw [aft_take hp] at hP
    generalize aft B (l.take k) = F at hP ⊢
    obtain ⟨g, rfl⟩ := Int.eq_ofNat_of_zero_le h1
    obtain ⟨t, rfl⟩ := Int.eq_ofNat_of_zero_le h3
    have hg : g < n := by omega
    have ht : t < n := by omega
    have hne : ¬ t = g := fun h => h5 (by rw [h])
    have e := st2_tab n F c hne
    rw [e] at hP
    simp [lp1_after_payments, hg, ht, hne, tab_set]
    exact hP _ ⟨_, _, _, rfl⟩
  · rintro e ⟨x3, x4, x5, rfl⟩
    simp
    exact hP
theorem e_law_after (hl : ∀ p ∈ l, ok1 n p = true) : d_law_after [.lst (tab n fun k => .int (B k)), .lst (l.map penc)] = .ok (.lst (tab n fun k => .int (aft B l k))) := by
  refine wp_run fun P hP => ?_
  simp [b_law_after]
  refine wp_forM (fun k e => ∃ x3 x4 x5, e = [some (.lst (tab n fun k => .int (B k))), some (.lst (l.map penc)), some (.lst (tab n fun j => .int (aft B (l.take k) j))), x3, x4, x5]) ⟨none, none, none, by simp [aft]⟩ ?_ ?_
  · rintro k ⟨g, t, c⟩ e hp ⟨x3, x4, x5, rfl⟩
    refine ⟨_, rfl, fun P hP => ?_⟩
    have ho := of_decide_eq_true (hl _ (List.mem_of_getElem? hp))
    simp only at ho
    obtain ⟨h1, h2, h3, h4, h5, h6⟩ := ho
    rw [aft_take hp] at hP
    generalize aft B (l.take k) = F at hP ⊢
    obtain ⟨g, rfl⟩ := Int.eq_ofNat_of_zero_le h1
    obtain ⟨t, rfl⟩ := Int.eq_ofNat_of_zero_le h3
    have hg : g < n := by omega
    have ht : t < n := by omega
    have hne : ¬ t = g := fun h => h5 (by rw [h])
    have e := st2_tab n F c hne
    rw [e] at hP
    simp [lp1_law_after, hg, ht, hne, tab_set]
    exact hP _ ⟨_, _, _, rfl⟩
  · rintro e ⟨x3, x4, x5, rfl⟩
    simp
    exact hP
/-- all settled -/
def settledB (n : Nat) (B : Nat → Int) (l : List Pay) : Bool := l.all (ok1 n) && !(tab n fun k => !decide (aft B l k = 0)).any fun b => b
theorem e_settles (hn : n ≤ 6) (hl : l.length ≤ 100000) : d_settles [.lst (tab n fun k => .int (B k)), .lst (l.map penc)] = .ok (.bl (settledB n B l)) := by
  refine wp_run fun P hP => ?_
  have hl2 : l.length ≤ 16777216 := by omega
  have hn2 : n ≤ 16777216 := by omega
  simp [b_settles, hl2]
  refine wp_compM (fun p => ok1 n p) PV.bl (fun p _ => ?_) ?_
  · obtain ⟨g, t, c⟩ := p
    refine ⟨_, rfl, ?_⟩
    simp [d_is_payment, b_is_payment, ok1]
    by_cases h1 : 0 ≤ g <;> by_cases h2 : g < n <;> by_cases h3 : 0 ≤ t <;> by_cases h4 : t < n <;> by_cases h5 : g = t <;> simp [h1, h2, h3, h4, h5]
  · unfold settledB at hP
    cases ha : l.all (ok1 n) with
    | true =>
      rw [ha] at hP
      have := e_after (B := B) (fun p hp => List.all_eq_true.mp ha p hp)
      simp [this, ha, hn2]
      refine wp_comp (fun k => .bl (decide (aft B l k ≠ 0))) (fun k hk => by simp) ?_
      simp
      exact hP
    | false =>
      rw [ha] at hP
      simp [ha]
      simpa using hP
theorem e_law_settled (hn : n ≤ 6) (hl : l.length ≤ 100000) : d_law_settled [.lst (tab n fun k => .int (B k)), .lst (l.map penc)] = .ok (.bl (settledB n B l)) := by
  refine wp_run fun P hP => ?_
  have hn2 : n ≤ 16777216 := by omega
  unfold settledB at hP
  simp [b_law_settled]
  refine wp_forAll (ok1 n) (.bl false) (fun e => ∃ x2 x3 x4, e = [some (.lst (tab n fun k => .int (B k))), some (.lst (l.map penc)), x2, x3, x4, none]) ⟨_, _, _, rfl⟩ ?_ ?_ ?_
  · rintro ⟨g, t, c⟩ _ e ⟨x2, x3, x4, rfl⟩
    refine ⟨_, rfl, fun ho P hP => ?_, fun ho => ?_⟩
    · obtain ⟨h1, h2, h3, h4, h5, h6⟩ := of_decide_eq_true ho
      have a1 : ¬ (if t < g then t else g) < 0 := by simp only at *; split <;> omega
      have a2 : ¬ (n : Int) ≤ (if g < t then t else g) := by simp only at *; split <;> omega
      have a3 : ¬ g = t := h5
      have a4 : ¬ c < 1 := by simp only at h6; omega
      simp [lp1_law_settled, a1, a2, a3, a4]
      exact hP _ ⟨_, _, _, rfl⟩
    · have ho := of_decide_eq_false ho
      simp only at ho
      by_cases a1 : (if t < g then t else g) < 0
      · simp [lp1_law_settled, a1]
      · by_cases a2 : (n : Int) ≤ (if g < t then t else g)
        · simp [lp1_law_settled, a1, a2]
        · by_cases a3 : g = t
          · subst a3; simp only [Int.lt_irrefl, if_false] at a1 a2; simp [lp1_law_settled, a1, a2]
          · have a4 : c < 1 := by
              rcases Int.lt_or_le c 1 with h | h
              · exact h
              · exfalso
                apply ho
                split at a1 <;> split at a2 <;> refine ⟨by omega, by omega, by omega, by omega, a3, h⟩
            simp [lp1_law_settled, a1, a2, a3, a4]
  · rintro ha e ⟨x2, x3, x4, rfl⟩
    rw [ha] at hP
    have := e_law_after (B := B) (fun p hp => List.all_eq_true.mp ha p hp)
    simp [this, hn2]
    refine wp_compF (fun k => !decide (aft B l k = 0)) (fun k => .int (aft B l k)) (fun k hk => by simp) (fun k hk _ => by simp) ?_
    simp
    have e : decide (∀ a, a < n → aft B l a = 0) = !((tab n fun k => !decide (aft B l k = 0)).any fun b => b) := by
      rw [Bool.eq_iff_iff]
      simp [mem_tab, tab]
    rw [Bool.true_and, ← e] at hP
    exact hP
  · intro ha
    rw [ha] at hP
    simpa using hP
end
end Pw.K66

namespace Pw.K66
open PySem L2 Pw
theorem rng1 (m : Nat) : rng 1 (m : Int) = (List.range (m - 1)).map fun k => PV.int ((k + 1 : Nat) : Int) := by
  unfold rng
  rw [show ((m : Int) - 1).toNat = m - 1 by omega]
  apply List.map_congr_left
  intro k _
  congr 1; omega
def sumB (B : Nat → Int) (n S : Nat) : Int := ((bitsL S n).map B).sum
def gain (B : Nat → Int) (n S : Nat) : Int := if sumB B n S = 0 then 1 else 0
theorem mem_bitsL {S n k : Nat} : k ∈ bitsL S n ↔ k < n ∧ S.testBit k = true := by
  unfold bitsL; simp
theorem bit_le {S k : Nat} (h : S.testBit k = true) : 2 ^ k ≤ S := Nat.ge_two_pow_of_testBit h
section
variable {n S : Nat} {B : Nat → Int}
theorem e_alone (hn : n ≤ 100) : d_alone [.int (n : Nat)] = .ok (.int (2 ^ n : Nat)) := by
  refine wp_run fun P hP => ?_
  have h2 : n < 4611686018427387904 := by omega
  simp only [b_alone]
  simp [h2, -k1_alone, -Int.natCast_pow]
  refine pow_loop hn (fun k y i hk => ?_) fun y => ?_
  · have m := two_pow_sz (k := k) (by omega)
    have e : (2 : Int) * ((2 ^ k : Nat) : Int) = ((2 ^ (k + 1) : Nat) : Int) := by rw [Nat.pow_succ]; omega
    generalize 2 ^ (k + 1) = z at e ⊢
    generalize 2 ^ k = w at m e ⊢
    simp [lp1_alone, m, e]
  · generalize 2 ^ n = z at hP ⊢
    simp
    exact hP
theorem e_power (hn : n ≤ 100) : d_law_power [.int (n : Nat)] = .ok (.int (2 ^ n : Nat)) := by
  refine wp_run fun P hP => ?_
  have h2 : n < 4611686018427387904 := by omega
  simp only [Lib.b_law_power_b]
  simp [h2, -Lib.k1_law_power_b, -Int.natCast_pow]
  refine pow_loop hn (fun k y i hk => ?_) fun y => ?_
  · have m := two_pow_sz (k := k) (by omega)
    have e : (2 : Int) * ((2 ^ k : Nat) : Int) = ((2 ^ (k + 1) : Nat) : Int) := by rw [Nat.pow_succ]; omega
    generalize 2 ^ (k + 1) = z at e ⊢
    generalize 2 ^ k = w at m e ⊢
    simp [Lib.lp1_law_power_b, m, e]
  · generalize 2 ^ n = z at hP ⊢
    simp
    exact hP
theorem e_members (hn : n ≤ 20) : d_law_members [.int (S : Nat), .int (n : Nat)] = .ok (.lst ((bitsL S n).map fun k => .int (k : Nat))) := by
  refine wp_run fun P hP => ?_
  have h1 : n < 4611686018427387904 := by omega
  have h2 : n ≤ 16777216 := by omega
  simp [b_law_members, h1, h2, rng_len]
  rw [rng0_map]
  refine wp_compMF (fun k => S.testBit k) (fun k => k) (fun k => PV.int (k : Nat)) (fun k hk => ⟨_, rfl, ?_, fun _ => ?_⟩) ?_
  · have hk := List.mem_range.mp hk
    have p := e_power (n := k) (by omega)
    have b := bit_mod S k
    have pz := Nat.two_pow_pos k
    have ps : 2 ^ k < 1073741824 := Nat.lt_of_lt_of_le (Nat.pow_lt_pow_right (by omega) hk) (Nat.le_trans (Nat.pow_le_pow_right (by omega) hn) (by decide))
    generalize 2 ^ k = z at p pz ps b
    have e : ((S : Int) / (z : Int)) % 2 = ((S / z % 2 : Nat) : Int) := by rw [Int.natCast_emod, Int.natCast_ediv]; rfl
    simp [p, pz, ps]
    rw [Bool.eq_iff_iff, ← b, decide_eq_true_iff, e]
    omega
  · simp
  · simp
    exact hP
theorem e_sum_in (hn : n ≤ 20) (hS : S < 2 ^ n) : d_sum_in [.lst (tab n fun k => .int (B k)), .int (S : Nat)] = .ok (.int (sumB B n S)) := by
  have r := e_riders_in (g := S) (m := n) hS (by omega)
  have bl := bitsL_length S n
  have hl : (bitsL S n).length ≤ 16777216 := by omega
  have r : d_riders_in [.int (S : Nat)] = _ := r
  refine wp_run fun P hP => ?_
  simp [b_sum_in, r, hl]
  refine wp_compM B PV.int (fun k hk => ⟨_, rfl, ?_⟩) ?_
  · have hk := (mem_bitsL.mp hk).1
    simp [hk]
  · simp
    exact hP
theorem e_law_sum_in (hn : n ≤ 20) : d_law_sum_in [.lst (tab n fun k => .int (B k)), .int (S : Nat)] = .ok (.int (sumB B n S)) := by
  have r := e_members (S := S) hn
  have bl := bitsL_length S n
  have hl : (bitsL S n).length ≤ 16777216 := by omega
  refine wp_run fun P hP => ?_
  simp [b_law_sum_in, r, hl]
  refine wp_compM B PV.int (fun k hk => ⟨_, rfl, ?_⟩) ?_
  · have hk := (mem_bitsL.mp hk).1
    simp [hk]
  · simp
    exact hP
end
end Pw.K66

namespace Pw.K66
open PySem L2 Pw
section
variable {n m : Nat} {B L : Nat → Int}
/-- one set's labels hold -/
def fit1 (n : Nat) (B L : Nat → Int) (S : Nat) : Bool := (bitsL S n).all fun k => !decide (L S < L (S - 2 ^ k) + gain B n S)
def fitB (n m : Nat) (B L : Nat → Int) : Bool := decide (m = 2 ^ n) && (decide (L 0 = 0) && (List.range (m - 1)).all fun k => fit1 n B L (k + 1))
theorem pow20 {n : Nat} (hn : n ≤ 20) : 2 ^ n ≤ 1048576 := Nat.pow_le_pow_right (n := 2) (by omega) hn
theorem e_labels_fit (hn : n ≤ 20) (hm : m ≤ 16777216) : d_labels_fit [.lst (tab n fun k => .int (B k)), .lst (tab m fun k => .int (L k))] = .ok (.bl (fitB n m B L)) := by
  refine wp_run fun P hP => ?_
  have hz := pow20 hn
  have hp := Nat.two_pow_pos n
  have ea := e_alone (n := n) (by omega)
  unfold fitB at hP
  by_cases c1 : m = 2 ^ n
  · have e0 : atI (tab m fun k => PV.int (L k)) 0 = some (.int (L 0)) := by rw [atI_tab, if_pos (by omega)]; rfl
    rw [decide_eq_true c1, Bool.true_and] at hP
    rw [← c1] at ea
    have h1 : m < 4611686018427387904 := by omega
    by_cases c2 : L 0 = 0
    · rw [decide_eq_true c2, Bool.true_and] at hP
      simp [b_labels_fit, ea, e0, c2, h1, -atI_tab, -k1_labels_fit]
      rw [rng1]
      refine wp_forAll (fun k => fit1 n B L (k + 1)) (.bl false) (fun e => ∃ x2 x3, e = [some (.lst (tab n fun k => .int (B k))), some (.lst (tab m fun k => .int (L k))), x2, x3, none]) ⟨_, _, rfl⟩ ?_ ?_ ?_
      · rintro k hk e ⟨x2, x3, rfl⟩
        have hk := List.mem_range.mp hk
        generalize hS : k + 1 = S
        have hS1 : S < m := by omega
        have hS2 : S < 2 ^ n := by omega
        have es := e_sum_in (B := B) hn hS2
        have er : d_riders_in [.int (S : Nat)] = _ := e_riders_in (g := S) (m := n) hS2 (by omega)
        have bl := bitsL_length S n
        have hl : (bitsL S n).length ≤ 16777216 := by omega
        have eg : (if (decide (sumB B n S = 0)) = true then (1 : Int) else 0) = gain B n S := by unfold gain; simp
        have body : ∀ P : Out → Prop, (if fit1 n B L S = true then P (.nx [some (.lst (tab n fun k => .int (B k))), some (.lst (tab m fun k => .int (L k))), some (.int S), some (.int (gain B n S)), none]) else P (.rt (.bl false))) →
            Wp (lp1_labels_fit [some (.lst (tab n fun k => .int (B k))), some (.lst (tab m fun k => .int (L k))), some (.int S), x3, none]) P := fun P hP => by
          have gg : d_gain_of [.lst (tab n fun k => .int (B k)), .int (S : Nat)] = .ok (.int (gain B n S)) := by
            simp [d_gain_of, b_gain_of, es, gain]
          simp [lp1_labels_fit, gg, er, hl]
          refine wp_compM (fun k => decide (L S < L (S - 2 ^ k) + gain B n S)) PV.bl (fun k hk => ⟨_, rfl, ?_⟩) ?_
          · obtain ⟨k1, k2⟩ := mem_bitsL.mp hk
            have b1 := bit_le k2
            have ek := e_alone (n := k) (by omega)
            have e1 : (S : Int) - ((2 ^ k : Nat) : Int) = ((S - 2 ^ k : Nat) : Int) := by omega
            have pz := Nat.two_pow_pos k
            have e2 : S - 2 ^ k < m := by omega
            generalize 2 ^ k = z at ek e1 e2 ⊢
            simp [ek, hS1, e1, e2, -atI_tab]
          · have ef : fit1 n B L S = true ↔ ¬ ∃ x, x ∈ bitsL S n ∧ L S < L (S - 2 ^ x) + gain B n S := by
              unfold fit1
              rw [List.all_eq_true]
              simp
            by_cases hf : fit1 n B L S = true
            · rw [if_pos hf] at hP
              have := ef.mp hf
              simp [this]
              exact hP
            · rw [if_neg hf] at hP
              have : ∃ x, x ∈ bitsL S n ∧ L S < L (S - 2 ^ x) + gain B n S := Classical.byContradiction fun h => hf (ef.mpr h)
              simp [this]
              exact hP
        refine ⟨[some (.lst (tab n fun k => .int (B k))), some (.lst (tab m fun k => .int (L k))), some (.int S), x3, none], by subst hS; simp, fun hf P hP => body P ?_, fun hf => ?_⟩
        · rw [if_pos hf]; exact hP _ ⟨_, _, rfl⟩
        · exact wp_of fun P hP => body P (by rw [if_neg (by rw [hf]; decide)]; exact hP)
      · rintro ha e ⟨x2, x3, rfl⟩
        rw [ha] at hP
        simp
        exact hP
      · intro ha
        rw [ha] at hP
        exact hP
    · rw [decide_eq_false c2] at hP
      simp [b_labels_fit, ea, e0, c2, -atI_tab]
      simpa using hP
  · rw [decide_eq_false c1] at hP
    have c1' : ¬ (m : Int) = ((2 ^ n : Nat) : Int) := by omega
    generalize 2 ^ n = z at ea c1'
    have c1'' : ¬ m = z := by omega
    simp [b_labels_fit, ea, c1', c1'']
    simpa using hP
end
end Pw.K66

namespace Pw.K66
open PySem L2 Pw
section
variable {n m : Nat} {B L : Nat → Int}
/-- what the judge and the law tell -/
def dueB (n m : Nat) (B L : Nat → Int) (l : List Pay) : Bool := settledB n B l && (fitB n m B L && decide ((l.length : Int) = n - L (m - 1)))
theorem e_judge {l : List Pay} (h1 : 1 ≤ n) (hn : n ≤ 6) (hm : m ≤ 100000) (hl : l.length ≤ 100000) : d_judge_fewest [.lst (tab n fun k => .int (B k)), .tup [.lst (l.map penc), .lst (tab m fun k => .int (L k))]] = .ok (.bl (dueB n m B L l)) := by
  have e1 := e_settles (B := B) hn hl
  have e2 := e_labels_fit (B := B) (L := L) (n := n) (m := m) (by omega) (by omega)
  refine wp_run fun P hP => ?_
  unfold dueB at hP
  cases hs : settledB n B l with
  | false =>
    rw [hs] at hP e1
    simp [b_judge_fewest, e1]
    simpa using hP
  | true =>
    rw [hs] at hP e1
    cases hf : fitB n m B L with
    | false =>
      rw [hf] at hP e2
      simp [b_judge_fewest, e1, e2]
      simpa using hP
    | true =>
      rw [hf] at hP e2
      have hm1 : 1 ≤ m := by
        unfold fitB at hf
        simp only [Bool.and_eq_true, decide_eq_true_eq] at hf
        have := Nat.two_pow_pos n
        omega
      have e3 : atI (tab m fun k => PV.int (L k)) (-1) = some (.int (L (m - 1))) := by
        rw [atI_tab, if_neg (by omega), if_pos (by omega), show (-1 + (m : Int)).toNat = m - 1 by omega]
      simp [b_judge_fewest, e1, e2, e3, -atI_tab]
      simpa using hP
end
end Pw.K66

namespace Pw.K66
open PySem L2 Pw
theorem cut_tab {α : Type} {n a b : Nat} (f : Nat → α) (h1 : a ≤ b) (h2 : b ≤ n) : cut (tab n f) (some (a : Int)) (some (b : Int)) = tab (b - a) fun k => f (a + k) := by
  unfold cut HT.sIx
  rw [tab_length]
  have e1 : (if (a : Int) < 0 then ((a : Int) + (n : Int)).toNat else min (a : Int).toNat n) = a := by rw [if_neg (by omega), Int.toNat_natCast]; omega
  have e2 : (if (b : Int) < 0 then ((b : Int) + (n : Int)).toNat else min (b : Int).toNat n) = b := by rw [if_neg (by omega), Int.toNat_natCast]; omega
  simp only [e1, e2]
  apply List.ext_getElem?
  intro k
  rw [List.getElem?_take, List.getElem?_drop, tab_get, tab_get]
  by_cases hk : k < b - a
  · rw [if_pos hk, if_pos hk, if_pos (by omega)]
  · rw [if_neg hk, if_neg hk]
theorem e_balances {ns : List Int} {Bd : Nat} (hb : ∀ z ∈ ns, z.natAbs < 2 ^ Bd) (hB : Bd ≤ 1048576) {most : Nat} (h1 : 1 ≤ most) (h5 : most ≤ 6) :
    ∃ (n : Nat) (B : Nat → Int), d_law_fewest_balances [.ro ns, .int most] = .ok (.lst (tab n fun k => .int (B k))) ∧ 1 ≤ n ∧ n ≤ 6 ∧ (tab n B).sum = 0 := by
  obtain ⟨p, hp, hr⟩ := e_draws hb hB 0 12
  have hp : d_law_draws [.ro ns, .int 0, .int 12] = _ := hp
  have q1 : ∃ s : Nat, 1 ≤ s ∧ s ≤ 5040 ∧ atI [PV.int 3, .int 5, .int 40, .int 5040] ((p 1 : Int) % 4) = some (.int (s : Int)) := by
    rcases (show (p 1 : Int) % 4 = 0 ∨ (p 1 : Int) % 4 = 1 ∨ (p 1 : Int) % 4 = 2 ∨ (p 1 : Int) % 4 = 3 by omega) with h | h | h | h <;> rw [h]
    · exact ⟨3, by omega, by omega, rfl⟩
    · exact ⟨5, by omega, by omega, rfl⟩
    · exact ⟨40, by omega, by omega, rfl⟩
    · exact ⟨5040, by omega, by omega, rfl⟩
  obtain ⟨s, s1, s2, q1⟩ := q1
  have q2 : ∃ f : Nat, f ≤ 1000000000 ∧ atI [PV.int 1, .int 1, .int 1000000000] ((p 2 : Int) % 3) = some (.int (f : Int)) := by
    rcases (show (p 2 : Int) % 3 = 0 ∨ (p 2 : Int) % 3 = 1 ∨ (p 2 : Int) % 3 = 2 by omega) with h | h | h <;> rw [h]
    · exact ⟨1, by omega, rfl⟩
    · exact ⟨1, by omega, rfl⟩
    · exact ⟨1000000000, by omega, rfl⟩
  obtain ⟨f, f1, q2⟩ := q2
  have hn : ∃ n : Nat, 1 ≤ n ∧ n ≤ 6 ∧ 1 + (p 0 : Int) % (most : Int) = (n : Int) := by
    have a := Int.emod_nonneg (p 0 : Int) (show (most : Int) ≠ 0 by omega)
    have b := Int.emod_lt_of_pos (p 0 : Int) (show (0 : Int) < most by omega)
    exact ⟨(1 + (p 0 : Int) % (most : Int)).toNat, by omega, by omega, by omega⟩
  obtain ⟨n, n1, n5, q0⟩ := hn
  have hc : cut (tab 12 fun k => PV.int (p k : Nat)) (some 3) (some (3 + (n : Int))) = tab n fun k => .int (p (3 + k) : Nat) := by
    have := cut_tab (n := 12) (a := 3) (b := 3 + n) (fun k => PV.int (p k : Nat)) (by omega) (by omega)
    rw [show 3 + n - 3 = n by omega] at this
    rw [← this]; congr 2
  have hm : 0 < (most : Int) := by omega
  suffices h : ∃ v, d_law_fewest_balances [.ro ns, .int most] = .ok v ∧ ∃ B : Nat → Int, v = .lst (tab n fun k => .int (B k)) ∧ (tab n B).sum = 0 by
    obtain ⟨v, e, B, rfl, h⟩ := h
    exact ⟨n, B, e, n1, n5, h⟩
  refine wp_runP _ fun P hP => ?_
  have n2 : n ≤ 16777216 := by omega
  have i0 : atI (tab 12 fun k => PV.int (p k : Nat)) 0 = some (.int (p 0 : Nat)) := rfl
  have i1 : atI (tab 12 fun k => PV.int (p k : Nat)) 1 = some (.int (p 1 : Nat)) := rfl
  have i2 : atI (tab 12 fun k => PV.int (p k : Nat)) 2 = some (.int (p 2 : Nat)) := rfl
  have i11 : atI (tab 12 fun k => PV.int (p k : Nat)) 11 = some (.int (p 11 : Nat)) := rfl
  have sp : 0 < (s : Int) := by omega
  have sp2 : 0 < s := by omega
  have hm2 : 0 < most := by omega
  simp -implicitDefEqProofs [b_law_fewest_balances, hp, hm, hm2, i0, i1, q0, q1, hc, n2, -atI_tab]
  refine wp_comp (fun k => .int (((p (3 + k) : Int) % s - s / 2) * f)) (fun k hk => ?_) ?_
  · have m : mulOk ((p (3 + k) : Int) % s - s / 2) (f : Int) = true := by
      have := Int.emod_nonneg (p (3 + k) : Int) (show (s : Int) ≠ 0 by omega)
      have := Int.emod_lt_of_pos (p (3 + k) : Int) sp
      exact mulOk_small (by omega) (by omega)
    simp -implicitDefEqProofs [i2, q2, sp, sp2, m, -atI_tab]
  generalize hv : (fun k => ((p (3 + k) : Int) % s - s / 2) * f) = v
  have hv' : (fun k => PV.int (((p (3 + k) : Int) % s - s / 2) * f)) = fun k => .int (v k) := by funext k; rw [← hv]
  rw [hv']
  have fin : ∀ (v : Nat → Int) (x6 x7 : Option PV), Wp (sSeq sNil (sSeq (sRet (eOp oAdd (eSl (eV 5) (pSome (eC (.int 0))) (pSome (eOp oSub (eV 3) (eC (.int 1))))) (eLst (aCons (eOp oSub (eC (.int 0)) (eCall oSum (aCons (eSl (eV 5) (pSome (eC (.int 0))) (pSome (eOp oSub (eV 3) (eC (.int 1))))) aNil))) aNil)))) sNil)
      [some (.ro ns), some (.int most), some (.lst (tab 12 fun k => .int (p k : Nat))), some (.int n), some (.int s), some (.lst (tab n fun k => .int (v k))), x6, x7]) P := fun v x6 x7 => by
    have ec : cut (tab n fun k => PV.int (v k)) (some 0) (some ((n : Int) - 1)) = tab (n - 1) fun k => .int (v k) := by
      have := cut_tab (n := n) (a := 0) (b := n - 1) (fun k => PV.int (v k)) (by omega) (by omega)
      rw [show ((n - 1 : Nat) : Int) = (n : Int) - 1 by omega] at this
      simpa using this
    have l1 : n - 1 ≤ 16777215 := by omega
    simp -implicitDefEqProofs [ec, l1]
    refine hP _ ⟨fun k => if k = n - 1 then -(tab (n - 1) v).sum else v k, ?_, ?_⟩
    · rw [tab_put, show n - 1 + 1 = n by omega]
      congr 1
      exact tab_ext fun k _ => by by_cases hk : k = n - 1 <;> simp [hk]
    · obtain ⟨m, rfl⟩ : ∃ m, n = m + 1 := ⟨n - 1, by omega⟩
      rw [tab_succ, List.sum_append]
      have : tab m (fun k => if k = m + 1 - 1 then -(tab (m + 1 - 1) v).sum else v k) = tab m v := tab_ext fun k hk => by rw [if_neg (by omega)]
      rw [this]; simp; omega
  by_cases h11 : (p 11 : Int) % 2 = 1
  · have ok3 : rOk3 1 (n : Int) 2 = true := by
      have n5' : n = 1 ∨ n = 2 ∨ n = 3 ∨ n = 4 ∨ n = 5 ∨ n = 6 := by omega
      rcases n5' with rfl | rfl | rfl | rfl | rfl | rfl <;> decide
    simp -implicitDefEqProofs [i11, h11, ok3, -atI_tab]
    unfold rng3
    refine wp_forM (fun k e => ∃ (v : Nat → Int) (x7 : Option PV), e = [some (.ro ns), some (.int most), some (.lst (tab 12 fun k => .int (p k : Nat))), some (.int n), some (.int s), some (.lst (tab n fun k => .int (v k))), none, x7]) ⟨v, _, rfl⟩ ?_ ?_
    · rintro k j e hj ⟨v, x7, rfl⟩
      refine ⟨_, rfl, fun P hP => ?_⟩
      obtain ⟨hk, hj⟩ := List.getElem?_eq_some_iff.mp hj
      rw [List.getElem_range] at hj
      rw [List.length_range] at hk
      subst hj
      have hlt : 1 + k * 2 < n := by
        unfold Builtin.Range.rangeSize at hk
        split at hk
        · split at hk <;> omega
        · omega
      have e1 : (1 : Int) + (k : Int) * 2 = ((1 + k * 2 : Nat) : Int) := by omega
      have e2 : ((1 + k * 2 : Nat) : Int) - 1 = ((k * 2 : Nat) : Int) := by omega
      rw [e1]
      generalize hy : 1 + k * 2 = y at hlt e2
      have hz : k * 2 < n := by omega
      generalize k * 2 = z at e2 hz
      simp [lp1_law_fewest_balances, hlt, e2, hz, tab_set, -atI_tab]
      have et : (tab n fun j => if j = y then PV.int (-v z) else PV.int (v j)) = tab n fun j => .int (if j = y then -v z else v j) := tab_ext fun j _ => by by_cases hj : j = y <;> simp [hj]
      rw [et]
      exact hP _ ⟨fun j => if j = y then -v z else v j, _, rfl⟩
    · rintro e ⟨v, x7, rfl⟩
      exact fin v none x7
  · have := fin v none none
    simp -implicitDefEqProofs [i11, h11, -atI_tab] at this ⊢
    exact this
end Pw.K66

namespace Pw.K66
open PySem L2 Pw
@[simp] theorem bitAnd_nat (a b : Nat) : Builtin.bitAnd (a : Int) (b : Int) = ((a &&& b : Nat) : Int) := by
  unfold Builtin.bitAnd
  rw [decide_eq_true (Int.natCast_nonneg a), decide_eq_true (Int.natCast_nonneg b)]
  rfl
abbrev Fam := Nat × List Nat
def enc2 (p : Fam) : PV := .tup [.int p.1, .lst (p.2.map fun k => .int (k : Nat))]
def stepF (T : Nat → Fam) (S low : Nat) (best : Fam) (p : Nat) : Fam :=
  if p &&& S = p ∧ p &&& low = low ∧ best.1 < (T (S - p)).1 + 1 then ((T (S - p)).1 + 1, (T (S - p)).2 ++ [p]) else best
def low (n S : Nat) : Nat := 2 ^ ((bitsL S n).headD 0)
def zeroL (B : Nat → Int) (n : Nat) : List Nat := ((List.range (2 ^ n - 1)).filter fun k => decide (sumB B n (k + 1) = 0)).map (· + 1)
def newF (B : Nat → Int) (n : Nat) (T : Nat → Fam) (S : Nat) : Fam := (zeroL B n).foldl (stepF T S (low n S)) (T (S - low n S))
def Tb (B : Nat → Int) (n : Nat) : Nat → Nat → Fam
  | 0 => fun _ => (0, [])
  | k + 1 => fun j => if j = k + 1 then newF B n (Tb B n k) (k + 1) else Tb B n k j
theorem bitsL_ne {S n : Nat} (h1 : 1 ≤ S) (h2 : S < 2 ^ n) : bitsL S n ≠ [] := by
  intro h
  have : ∀ k, S.testBit k = false := fun k => by
    by_cases hk : k < n
    · cases e : S.testBit k with
      | false => rfl
      | true =>
        have := mem_bitsL.mpr ⟨hk, e⟩
        rw [h] at this; cases this
    · exact Nat.testBit_lt_two_pow (Nat.lt_of_lt_of_le h2 (Nat.pow_le_pow_right (by omega) (by omega)))
  have := Nat.eq_of_testBit_eq (x := S) (y := 0) fun k => by rw [this k]; simp
  omega
theorem Tb_len (B : Nat → Int) (n : Nat) : ∀ k j : Nat, (Tb B n k j).2.length ≤ k + 1 := by
  intro k
  induction k with
  | zero => intro j; simp [Tb]
  | succ k ih =>
    intro j
    unfold Tb
    split
    · unfold newF
      have : ∀ (l : List Nat) (b : Fam), b.2.length ≤ k + 2 → (l.foldl (stepF (Tb B n k) (k + 1) (low n (k + 1))) b).2.length ≤ k + 2 := fun l => by
        induction l with
        | nil => exact fun b h => h
        | cons p l ihl =>
          intro b h
          rw [List.foldl_cons]
          apply ihl
          unfold stepF
          split
          · have := ih (k + 1 - p)
            simp; omega
          · exact h
      exact this _ _ (by have := ih (k + 1 - low n (k + 1)); omega)
    · have := ih j; omega
end Pw.K66

namespace Pw.K66
open PySem L2 Pw
@[simp ↓] theorem ix0 (q : Fam) : oIx (enc2 q) (.int 0) = .ok (.int q.1) := by simp [enc2]
@[simp ↓] theorem ix1 (q : Fam) : oIx (enc2 q) (.int 1) = .ok (.lst (q.2.map fun k => .int (k : Nat))) := by simp [enc2]
section
variable {n : Nat} {B : Nat → Int}
theorem mem_zeroL {p : Nat} : p ∈ zeroL B n ↔ 1 ≤ p ∧ p < 2 ^ n ∧ sumB B n p = 0 := by
  unfold zeroL
  simp only [List.mem_map, List.mem_filter, List.mem_range, decide_eq_true_eq]
  constructor
  · rintro ⟨k, ⟨h1, h2⟩, rfl⟩; exact ⟨by omega, by omega, h2⟩
  · rintro ⟨h1, h2, h3⟩; exact ⟨p - 1, ⟨by omega, by rw [show p - 1 + 1 = p by omega]; exact h3⟩, by omega⟩
theorem low_le {S : Nat} (h1 : 1 ≤ S) (h2 : S < 2 ^ n) : ∃ b, (bitsL S n)[0]? = some b ∧ low n S = 2 ^ b ∧ b < n ∧ S.testBit b = true ∧ 2 ^ b ≤ S := by
  have := bitsL_ne h1 h2
  cases e : bitsL S n with
  | nil => exact absurd e this
  | cons b l =>
    have hm := mem_bitsL.mp (show b ∈ bitsL S n by rw [e]; exact List.mem_cons_self)
    exact ⟨b, rfl, by unfold low; rw [e]; rfl, hm.1, hm.2, bit_le hm.2⟩
theorem e_most_parts (h1 : 1 ≤ n) (hn : n ≤ 6) : d_law_most_parts [.lst (tab n fun k => .int (B k))] = .ok (.lst (tab (2 ^ n) fun S => enc2 (Tb B n (2 ^ n - 1) S))) := by
  have hz : 2 ^ n ≤ 64 := Nat.pow_le_pow_right (n := 2) (by omega) hn
  have hp := Nat.two_pow_pos n
  have ea := e_power (n := n) (by omega)
  generalize hm : 2 ^ n = m at ea hz hp ⊢
  have m1 : m < 4611686018427387904 := by omega
  have m2 : m ≤ 16777217 := by omega
  refine wp_run fun P hP => ?_
  simp -implicitDefEqProofs [b_law_most_parts, ea, m1, m2, rng_len, -k1_law_most_parts]
  rw [rng1]
  refine wp_compMF (fun k => decide (sumB B n (k + 1) = 0)) (fun k => k + 1) (fun k => PV.int (k : Nat)) (fun k hk => ?_) ?_
  · have hk := List.mem_range.mp hk
    have es := e_law_sum_in (B := B) (S := k + 1) (n := n) (by omega)
    generalize k + 1 = S at es
    exact ⟨_, rfl, by simp [es], fun _ => by simp⟩
  have ez : ((List.range (m - 1)).filter fun k => decide (sumB B n (k + 1) = 0)).map (fun k => k + 1) = zeroL B n := by unfold zeroL; rw [hm]
  rw [ez]
  simp -implicitDefEqProofs [ea, m1, -k1_law_most_parts]
  rw [rng1]
  refine wp_forM (fun k e => ∃ x2 x4 x5 x6, e = [some (.lst (tab n fun k => .int (B k))), some (.lst ((zeroL B n).map fun k => .int (k : Nat))), x2, some (.lst (tab (k + 1) fun S => enc2 (Tb B n k S))), x4, x5, x6]) ⟨none, none, none, none, rfl⟩ ?_ ?_
  · rintro k j e hj ⟨x2, x4, x5, x6, rfl⟩
    refine ⟨_, rfl, fun P hP => ?_⟩
    obtain ⟨hk, hj⟩ := List.getElem?_eq_some_iff.mp hj
    rw [List.getElem_range] at hj
    rw [List.length_range] at hk
    subst hj
    have hS2 : k + 1 < 2 ^ n := by omega
    obtain ⟨b, hb0, hlow, hbn, hbt, hbS⟩ := low_le (n := n) (S := k + 1) (by omega) hS2
    have em := e_members (S := k + 1) (n := n) (by omega)
    have eb := e_power (n := b) (by omega)
    have pb := Nat.two_pow_pos b
    have ht : tab (k + 1 + 1) (fun S => enc2 (Tb B n (k + 1) S)) = (tab (k + 1) fun S => enc2 (Tb B n k S)) ++ [enc2 (newF B n (Tb B n k) (k + 1))] := by
      rw [tab_succ]
      congr 1
      · exact tab_ext fun j hj => by show enc2 (if j = k + 1 then _ else _) = _; rw [if_neg (by omega)]
      · show [enc2 (if k + 1 = k + 1 then _ else _)] = _; rw [if_pos rfl]
    rw [ht] at hP
    have hT := Tb_len B n k
    generalize Tb B n k = T at hP hT ⊢
    generalize hS : k + 1 = S at *
    have i0 : atI ((bitsL S n).map fun k => PV.int (k : Nat)) 0 = some (.int (b : Nat)) := by
      have := atI_natCast ((bitsL S n).map fun k => PV.int (k : Nat)) 0
      rw [List.getElem?_map, hb0] at this
      exact this
    have e1 : (S : Int) - ((2 ^ b : Nat) : Int) = ((S - 2 ^ b : Nat) : Int) := by omega
    have e2 : S - 2 ^ b < S := by omega
    unfold newF at hP
    rw [hlow] at hP
    generalize 2 ^ b = z at *
    have hk2 : S < 16777216 := by omega
    simp -implicitDefEqProofs [lp1_law_most_parts, em, i0, eb, e1, e2, -atI_tab, -k2_law_most_parts]
    refine wp_forM (fun j e => ∃ x6, e = [some (.lst (tab n fun k => .int (B k))), some (.lst ((zeroL B n).map fun k => .int (k : Nat))), some (.int S), some (.lst (tab S fun S => enc2 (T S))), some (.int z), some (enc2 (((zeroL B n).take j).foldl (stepF T S z) (T (S - z)))), x6]) ⟨_, rfl⟩ ?_ ?_
    · rintro j p e hp ⟨x6, rfl⟩
      refine ⟨_, rfl, fun P hP => ?_⟩
      obtain ⟨p1, p2, p3⟩ := mem_zeroL.mp (List.mem_of_getElem? hp)
      rw [List.take_add_one, hp, List.foldl_append] at hP
      simp only [Option.toList_some, List.foldl_cons, List.foldl_nil] at hP
      generalize ((zeroL B n).take j).foldl (stepF T S z) (T (S - z)) = best at hP ⊢
      unfold stepF at hP
      by_cases c1 : p &&& S = p
      · have pS : p ≤ S := by rw [← c1]; exact Nat.and_le_right
        have e3 : (S : Int) - (p : Int) = ((S - p : Nat) : Int) := by omega
        have e4 : S - p < S := by omega
        by_cases c2 : p &&& z = z
        · by_cases c3 : best.1 < (T (S - p)).1 + 1
          · rw [if_pos ⟨c1, c2, c3⟩] at hP
            have hl := hT (S - p)
            have c3' : (best.1 : Int) < ((T (S - p)).1 : Int) + 1 := by omega
            have hl2 : (T (S - p)).2.length ≤ 16777215 := by omega
            simp -implicitDefEqProofs [lp2_law_most_parts, c1, c2, c3', e3, e4, hl2, -atI_tab]
            have et : enc2 ((T (S - p)).1 + 1, (T (S - p)).2 ++ [p]) = .tup [.int (((T (S - p)).1 : Int) + 1), .lst ((T (S - p)).2.map (fun k => PV.int (k : Nat)) ++ [.int p])] := by simp [enc2]
            rw [et] at hP
            exact hP _ ⟨_, rfl⟩
          · rw [if_neg (fun h => c3 h.2.2)] at hP
            have c3' : ¬ (best.1 : Int) < ((T (S - p)).1 : Int) + 1 := by omega
            simp -implicitDefEqProofs [lp2_law_most_parts, c1, c2, c3', e3, e4, -atI_tab]
            exact hP _ ⟨_, rfl⟩
        · rw [if_neg (fun h => c2 h.2.1)] at hP
          have c2i : ¬ ((p &&& z : Nat) : Int) = (z : Int) := fun h => c2 (Int.ofNat_inj.mp h)
          simp -implicitDefEqProofs [lp2_law_most_parts, c1, c2i, -atI_tab]
          exact hP _ ⟨_, rfl⟩
      · rw [if_neg (fun h => c1 h.1)] at hP
        have c1i : ¬ ((p &&& S : Nat) : Int) = (p : Int) := fun h => c1 (Int.ofNat_inj.mp h)
        simp -implicitDefEqProofs [lp2_law_most_parts, c1i, -atI_tab]
        exact hP _ ⟨_, rfl⟩
    · rintro e ⟨x6, rfl⟩
      rw [List.take_length]
      simp -implicitDefEqProofs [hk2]
      exact hP _ ⟨_, _, _, _, rfl⟩
  · rintro e ⟨x2, x4, x5, x6, rfl⟩
    rw [List.length_range, show m - 1 + 1 = m by omega]
    simp
    exact hP
end
end Pw.K66

namespace Pw.K66
open PySem L2 Pw
def bs (B : Nat → Int) (S : Nat) : Nat → Int
  | 0 => 0
  | k + 1 => bs B S k + if S.testBit k = true then B k else 0
theorem sumB_bs (B : Nat → Int) (S : Nat) : ∀ n : Nat, sumB B n S = bs B S n
  | 0 => rfl
  | n + 1 => by
    unfold sumB at *
    rw [bitsL_succ, List.map_append, List.sum_append]
    have := sumB_bs B S n
    unfold sumB at this
    rw [this, bs]
    split <;> simp
/-- p lies within S -/
def Sub (p S : Nat) : Prop := p &&& S = p
theorem bit_cut (S : Nat) (_ : S < 64) (p : Nat) (_ : p < 64) (h : p &&& S = p) (k : Nat) (_ : k < 6) : (S - p).testBit k = (S.testBit k && !p.testBit k) := msk_sub k p S h
theorem sub_bit (S : Nat) (_ : S < 64) (p : Nat) (_ : p < 64) (h : p &&& S = p) (k : Nat) (_ : k < 6) (hk : p.testBit k = true) : S.testBit k = true := msk_iff.mp h k hk
theorem sum_cut {n S p : Nat} (B : Nat → Int) (hn : n ≤ 6) (hS : S < 64) (hp : p < 64) (h : p &&& S = p) : sumB B n S = sumB B n p + sumB B n (S - p) := by
  rw [sumB_bs, sumB_bs, sumB_bs]
  have : ∀ k, k ≤ n → bs B S k = bs B p k + bs B (S - p) k := fun k => by
    induction k with
    | zero => intro _; rfl
    | succ k ih =>
      intro hk
      have e1 := bit_cut S hS p hp h k (by omega)
      have e2 := sub_bit S hS p hp h k (by omega)
      rw [bs, bs, bs, ih (by omega), e1]
      cases hb : p.testBit k
      · cases hs : S.testBit k
        · simp
        · simp; omega
      · rw [e2 hb]; simp; omega
  exact this n (Nat.le_refl _)
end Pw.K66

namespace Pw.K66
open PySem L2 Pw
/-- a family of parts within S: each nonzero, with sum 0, the others within the rest -/
def IsF (B : Nat → Int) (n : Nat) : List Nat → Nat → Prop
  | [], _ => True
  | p :: l, S => 1 ≤ p ∧ p &&& S = p ∧ sumB B n p = 0 ∧ IsF B n l (S - p)
theorem sub_le {p S : Nat} (h : p &&& S = p) : p ≤ S := by rw [← h]; exact Nat.and_le_right
theorem cut_sub (S : Nat) (hS : S < 64) (p : Nat) (hp : p < 64) (h : p &&& S = p) (q : Nat) (hq : q < 64) (h2 : q &&& (S - p) = q) : q &&& S = q ∧ p &&& (S - q) = p ∧ S - p - q = S - q - p := ⟨msk_cut1 h h2, msk_cut2 h h2, by omega⟩
theorem sub_up (S : Nat) (_ : S < 64) (b : Nat) (_ : b < 6) (h : S.testBit b = true) (q : Nat) (_ : q < 64) (h2 : q &&& (S - 2 ^ b) = q) : q &&& S = q := (msk_up h h2).1
theorem no_bit (S : Nat) (hS : S < 64) (b : Nat) (hb : b < 6) (h : S.testBit b = true) (q : Nat) (hq : q < 64) (h2 : q &&& S = q) (h3 : q.testBit b = false) : q &&& (S - 2 ^ b) = q ∧ (S - q).testBit b = true ∧ S - q - 2 ^ b = S - 2 ^ b - q := ⟨(msk_no h h2 h3).1, (msk_no h h2 h3).2, by omega⟩
section
variable {n : Nat} {B : Nat → Int}
theorem IsF.mem {S : Nat} (hS : S < 64) : ∀ {l : List Nat}, IsF B n l S → ∀ p ∈ l, p &&& S = p ∧ p < 64
  | [], _, p, hp => by cases hp
  | q :: l, ⟨h1, h2, h3, h4⟩, p, hp => by
    have hq := sub_le h2
    rcases List.mem_cons.mp hp with rfl | hp
    · exact ⟨h2, by omega⟩
    · have := IsF.mem (S := S - q) (by omega) h4 p hp
      exact ⟨(cut_sub S hS q (by omega) h2 p this.2 this.1).1, this.2⟩
/-- a part is taken out -/
theorem IsF.take {S p : Nat} (hS : S < 64) : ∀ {l : List Nat}, IsF B n l S → p ∈ l → ∃ l', l'.length + 1 = l.length ∧ IsF B n (p :: l') S
  | [], _, hp => by cases hp
  | q :: l, h, hp => by
    rcases List.mem_cons.mp hp with rfl | hp
    · exact ⟨l, rfl, h⟩
    · obtain ⟨h1, h2, h3, h4⟩ := h
      have hq := sub_le h2
      obtain ⟨l', e, k1, k2, k3, k4⟩ := IsF.take (S := S - q) (by omega) h4 hp
      have kp := sub_le k2
      have c := cut_sub S hS q (by omega) h2 p (by omega) k2
      refine ⟨q :: l', by simp [← e], k1, c.1, k3, h1, c.2.1, h3, ?_⟩
      rw [← c.2.2]; exact k4
/-- without the rider b -/
theorem IsF.drop {b : Nat} (hb : b < 6) : ∀ {l : List Nat} {S : Nat}, S < 64 → S.testBit b = true → IsF B n l S → (∀ p ∈ l, p.testBit b = false) → IsF B n l (S - 2 ^ b)
  | [], _, _, _, _, _ => True.intro
  | q :: l, S, hS, hbS, ⟨h1, h2, h3, h4⟩, hn => by
    have hq := sub_le h2
    have c := no_bit S hS b hb hbS q (by omega) h2 (hn q List.mem_cons_self)
    refine ⟨h1, c.1, h3, ?_⟩
    rw [← c.2.2]
    exact IsF.drop hb (by omega) c.2.1 h4 fun p hp => hn p (List.mem_cons_of_mem _ hp)
end
end Pw.K66

namespace Pw.K66
open PySem L2 Pw
section
variable {n : Nat} {B : Nat → Int}
/-- the table at its own place -/
def Fs (B : Nat → Int) (n S : Nat) : Fam := Tb B n S S
theorem Tb_low : ∀ (k j : Nat), j ≤ k → Tb B n k j = Fs B n j
  | 0, j, h => by
    obtain rfl : j = 0 := by omega
    rfl
  | k + 1, j, h => by
    by_cases e : j = k + 1
    · subst e; rfl
    · show (if j = k + 1 then _ else _) = _
      rw [if_neg e]; exact Tb_low k j (by omega)
theorem Fs_step (S : Nat) : Fs B n (S + 1) = (zeroL B n).foldl (stepF (Tb B n S) (S + 1) (low n (S + 1))) (Tb B n S (S + 1 - low n (S + 1))) := by
  show (if S + 1 = S + 1 then _ else _) = _
  rw [if_pos rfl]; rfl
/-- what a fold keeps -/
theorem fold_keep {T : Nat → Fam} {S z : Nat} (Q : Fam → Prop) : ∀ (l : List Nat) (b : Fam), Q b → (∀ p ∈ l, ∀ b, Q b → Q (stepF T S z b p)) → Q (l.foldl (stepF T S z) b)
  | [], _, h, _ => h
  | p :: l, b, h, k => fold_keep Q l _ (k p List.mem_cons_self b h) fun q hq => k q (List.mem_cons_of_mem _ hq)
theorem fold_ge {T : Nat → Fam} {S z : Nat} : ∀ (l : List Nat) (b : Fam), b.1 ≤ (l.foldl (stepF T S z) b).1 := fun l b =>
  fold_keep (fun x => b.1 ≤ x.1) l b (Nat.le_refl _) fun p _ x hx => by
    unfold stepF; split
    · rename_i h; show b.1 ≤ _ + 1; omega
    · exact hx
theorem fold_has {T : Nat → Fam} {S z p : Nat} (h1 : p &&& S = p) (h2 : p &&& z = z) : ∀ (l : List Nat) (b : Fam), p ∈ l → (T (S - p)).1 + 1 ≤ (l.foldl (stepF T S z) b).1
  | [], _, h => by cases h
  | q :: l, b, h => by
    rw [List.foldl_cons]
    rcases List.mem_cons.mp h with rfl | h
    · refine Nat.le_trans ?_ (fold_ge l _)
      unfold stepF
      by_cases hb : b.1 < (T (S - p)).1 + 1
      · rw [if_pos ⟨h1, h2, hb⟩]; exact Nat.le_refl _
      · rw [if_neg (fun x => hb x.2.2)]; omega
    · exact fold_has h1 h2 l _ h
theorem low_bit (b : Nat) (_ : b < 6) (p : Nat) (_ : p < 64) : (p &&& 2 ^ b = 2 ^ b ↔ p.testBit b = true) := msk_low
theorem sub_up2 (U : Nat) (_ : U < 64) (b : Nat) (_ : b < 6) (q : Nat) (_ : q < 64) (h : U.testBit b = true) (h2 : q &&& (U - 2 ^ b) = q) : (U - q).testBit b = true := (msk_up h h2).2
theorem IsF.up {b : Nat} (hb5 : b < 6) : ∀ (l : List Nat) (U : Nat), U < 64 → U.testBit b = true → IsF B n l (U - 2 ^ b) → IsF B n l U := fun l => by
  induction l with
  | nil => exact fun _ _ _ _ => True.intro
  | cons q l ihl =>
    rintro U hU hUb ⟨k1, k2, k3, k4⟩
    have q32 : q < 64 := by have := sub_le k2; have := Nat.sub_le U (2 ^ b); omega
    have c := sub_up U hU b hb5 hUb q q32 k2
    have c2 := sub_up2 U hU b hb5 q q32 hUb k2
    refine ⟨k1, c, k3, ihl (U - q) (by omega) c2 ?_⟩
    rw [show U - q - 2 ^ b = U - 2 ^ b - q by omega]; exact k4
/-- the table's families are families, and as long as it says -/
theorem Fs_fam (hn : n ≤ 6) : ∀ (m S : Nat), S ≤ m → S < 2 ^ n → (Fs B n S).2.length = (Fs B n S).1 ∧ IsF B n (Fs B n S).2.reverse S := by
  have hz : 2 ^ n ≤ 64 := Nat.pow_le_pow_right (n := 2) (by omega) hn
  intro m
  induction m with
  | zero =>
    intro S h _
    obtain rfl : S = 0 := by omega
    exact ⟨rfl, True.intro⟩
  | succ m ih =>
    intro S hSm hS
    match S with
    | 0 => exact ⟨rfl, True.intro⟩
    | S + 1 =>
      obtain ⟨b, _, hlow, hbn, hbt, hbS⟩ := low_le (n := n) (S := S + 1) (by omega) hS
      have pb := Nat.two_pow_pos b
      rw [Fs_step, hlow]
      refine fold_keep (fun x => x.2.length = x.1 ∧ IsF B n x.2.reverse (S + 1)) _ _ ?_ fun p hp x hx => ?_
      · rw [Tb_low _ _ (by omega)]
        obtain ⟨h1, h2⟩ := ih (S + 1 - 2 ^ b) (by omega) (by omega)
        refine ⟨h1, ?_⟩
        exact IsF.up (by omega) _ _ (by omega) hbt h2
      · unfold stepF
        split
        · rename_i h
          obtain ⟨p1, p2, p3⟩ := mem_zeroL.mp hp
          have hle := sub_le h.1
          rw [Tb_low _ _ (by omega)]
          obtain ⟨h1, h2⟩ := ih (S + 1 - p) (by omega) (by omega)
          refine ⟨by rw [List.length_append, h1]; rfl, ?_⟩
          rw [List.reverse_append]
          exact ⟨p1, h.1, p3, h2⟩
        · exact hx

theorem isF_zero {l : List Nat} (h : IsF B n l 0) : l = [] := by
  cases l with
  | nil => rfl
  | cons p l =>
    obtain ⟨h1, h2, _⟩ := h
    have := sub_le h2; omega
/-- no family is longer -/
theorem Fs_most (hn : n ≤ 6) : ∀ (m S : Nat), S ≤ m → S < 2 ^ n → ∀ l, IsF B n l S → l.length ≤ (Fs B n S).1 := by
  have hz : 2 ^ n ≤ 64 := Nat.pow_le_pow_right (n := 2) (by omega) hn
  intro m
  induction m with
  | zero =>
    intro S h _ l hl
    obtain rfl : S = 0 := by omega
    rw [isF_zero hl]; exact Nat.zero_le _
  | succ m ih =>
    intro S hSm hS l hl
    match S with
    | 0 => rw [isF_zero hl]; exact Nat.zero_le _
    | S + 1 =>
      obtain ⟨b, _, hlow, hbn, hbt, hbS⟩ := low_le (n := n) (S := S + 1) (by omega) hS
      have pb := Nat.two_pow_pos b
      rw [Fs_step, hlow]
      by_cases hp : ∃ p ∈ l, p.testBit b = true
      · obtain ⟨p, hp, hpb⟩ := hp
        obtain ⟨l', e, k1, k2, k3, k4⟩ := IsF.take (by omega) hl hp
        have kp := sub_le k2
        have h1 := ih (S + 1 - p) (by omega) (by omega) l' k4
        have h2 := fold_has (T := Tb B n S) (S := S + 1) (z := 2 ^ b) (p := p) k2 ((low_bit b (by omega) p (by omega)).mpr hpb) (zeroL B n) (Tb B n S (S + 1 - 2 ^ b)) (mem_zeroL.mpr ⟨k1, by omega, k3⟩)
        rw [Tb_low _ _ (by omega)] at h2
        rw [Tb_low _ _ (by omega)] at h2 ⊢
        omega
      · have h1 := IsF.drop (by omega) (by omega) hbt hl fun p hp' => by
          cases e : p.testBit b with
          | false => rfl
          | true => exact absurd ⟨p, hp', e⟩ hp
        have h2 := ih (S + 1 - 2 ^ b) (by omega) (by omega) l h1
        have h3 := fold_ge (T := Tb B n S) (S := S + 1) (z := 2 ^ b) (zeroL B n) (Tb B n S (S + 1 - 2 ^ b))
        rw [Tb_low _ _ (by omega)] at h3 ⊢
        omega
/-- the rest is one more part -/
theorem IsF.more (hn : n ≤ 6) {b : Nat} (hb5 : b < 6) : ∀ (l : List Nat) (U : Nat), U < 64 → U.testBit b = true → sumB B n U = 0 → IsF B n l (U - 2 ^ b) → ∃ l', l'.length = l.length + 1 ∧ IsF B n l' U := fun l => by
  induction l with
  | nil =>
    intro U hU hb h0 _
    refine ⟨[U], rfl, ?_, Nat.and_self _, h0, True.intro⟩
    rcases Nat.eq_zero_or_pos U with rfl | h
    · simp at hb
    · exact h
  | cons q l ihl =>
    rintro U hU hUb h0 ⟨k1, k2, k3, k4⟩
    have q32 : q < 64 := by have := sub_le k2; have := Nat.sub_le U (2 ^ b); omega
    have c := sub_up U hU b hb5 hUb q q32 k2
    have c2 := sub_up2 U hU b hb5 q q32 hUb k2
    have hs := sum_cut B hn hU q32 c
    obtain ⟨l', e, k⟩ := ihl (U - q) (by omega) c2 (by omega) (by rw [show U - q - 2 ^ b = U - 2 ^ b - q by omega]; exact k4)
    exact ⟨q :: l', by simp [e], k1, c, k3, k⟩
theorem Fs_fit (hn : n ≤ 6) {S b : Nat} (hS : S < 2 ^ n) (hb : b < n) (hbt : S.testBit b = true) : ((Fs B n (S - 2 ^ b)).1 : Int) + gain B n S ≤ (Fs B n S).1 := by
  have hz : 2 ^ n ≤ 64 := Nat.pow_le_pow_right (n := 2) (by omega) hn
  have hsl := Nat.sub_le S (2 ^ b)
  obtain ⟨h1, h2⟩ := Fs_fam (B := B) hn S (S - 2 ^ b) (by omega) (by omega)
  unfold gain
  split
  · rename_i h0
    obtain ⟨l', e, k⟩ := IsF.more hn (by omega) _ S (by omega) hbt h0 h2
    have := Fs_most hn S S (Nat.le_refl _) hS l' k
    rw [List.length_reverse] at e
    omega
  · have := Fs_most hn S S (Nat.le_refl _) hS _ (IsF.up (by omega) _ S (by omega) hbt h2)
    rw [List.length_reverse] at this
    omega
theorem Fs_fits (hn : n ≤ 6) : fitB n (2 ^ n) B (fun S => ((Fs B n S).1 : Nat)) = true := by
  unfold fitB
  rw [decide_eq_true rfl, Bool.true_and, decide_eq_true (show ((Fs B n 0).1 : Int) = 0 from rfl), Bool.true_and, List.all_eq_true]
  intro k hk
  have hk := List.mem_range.mp hk
  unfold fit1
  rw [List.all_eq_true]
  intro b hb
  obtain ⟨h1, h2⟩ := mem_bitsL.mp hb
  have := Fs_fit (B := B) hn (S := k + 1) (by omega) h1 h2
  rw [decide_eq_false (show ¬ ((Fs B n (k + 1)).1 : Int) < ((Fs B n (k + 1 - 2 ^ b)).1 : Int) + gain B n (k + 1) by omega)]; rfl
end
end Pw.K66

namespace Pw.K66
open PySem L2 Pw
def star1 (B : Nat → Int) (a c : Nat) : List Pay := (if 0 < B c then [((a : Int), (c : Int), B c)] else []) ++ if B c < 0 then [((c : Int), (a : Int), -B c)] else []
def starL (B : Nat → Int) (n p : Nat) : List Pay := match bitsL p n with
  | [] => []
  | a :: cs => cs.flatMap (star1 B a)
section
variable {n : Nat} {B : Nat → Int}
theorem aft_append (F : Nat → Int) (l m : List Pay) : aft F (l ++ m) = aft (aft F l) m := by unfold aft; rw [List.foldl_append]
theorem aft_star1 {F : Nat → Int} {a c : Nat} (h : F c = B c) (hne : c ≠ a) : aft F (star1 B a c) = fun j => if j = c then 0 else if j = a then F a + B c else F j := by
  funext j
  unfold star1
  by_cases h1 : 0 < B c
  · rw [if_pos h1, if_neg (by omega)]
    simp only [List.append_nil, aft, List.foldl_cons, List.foldl_nil, st2, st1, Int.toNat_natCast]
    by_cases e : j = c
    · rw [if_pos e, if_pos e, if_neg hne]; omega
    · rw [if_neg e, if_neg e]
  · by_cases h2 : B c < 0
    · rw [if_neg h1, if_pos h2]
      simp only [List.nil_append, aft, List.foldl_cons, List.foldl_nil, st2, st1, Int.toNat_natCast]
      by_cases e : j = a
      · have n1 : ¬ j = c := fun h => hne (h.symm.trans e)
        have n2 : ¬ a = c := fun h => hne h.symm
        simp only [e, n2, if_true, if_false]; omega
      · rw [if_neg e, if_neg e]
        by_cases e2 : j = c
        · rw [if_pos e2, if_pos e2]; omega
        · rw [if_neg e2, if_neg e2]
    · rw [if_neg h1, if_neg h2]
      show F j = _
      have h0 : B c = 0 := by omega
      by_cases e2 : j = c
      · rw [if_pos e2, e2, h, h0]
      · rw [if_neg e2]
        by_cases e : j = a
        · rw [if_pos e, e, h0]; omega
        · rw [if_neg e]
theorem aft_star {a : Nat} : ∀ (cs : List Nat) (F : Nat → Int), cs.Nodup → a ∉ cs → (∀ c ∈ cs, F c = B c) → aft F (cs.flatMap (star1 B a)) = fun j => if j ∈ cs then 0 else if j = a then F a + (cs.map B).sum else F j
  | [], F, _, _, _ => by
    funext j
    show F j = _
    rw [if_neg List.not_mem_nil]
    by_cases e : j = a
    · rw [if_pos e, e]; simp
    · rw [if_neg e]
  | c :: cs, F, hd, ha, hF => by
    have hca : c ≠ a := fun h => ha (h ▸ List.mem_cons_self)
    rw [List.flatMap_cons, aft_append, aft_star1 (hF c List.mem_cons_self) hca]
    have hd' := List.nodup_cons.mp hd
    rw [aft_star cs _ hd'.2 (fun h => ha (List.mem_cons_of_mem _ h)) fun x hx => by
      have n1 : x ≠ c := fun h => hd'.1 (h ▸ hx)
      have n2 : x ≠ a := fun h => ha (h ▸ List.mem_cons_of_mem _ hx)
      show (if x = c then (0 : Int) else if x = a then F a + B c else F x) = B x
      rw [if_neg n1, if_neg n2]; exact hF x (List.mem_cons_of_mem _ hx)]
    funext j
    by_cases h1 : j ∈ cs
    · rw [if_pos h1, if_pos (List.mem_cons_of_mem _ h1)]
    · rw [if_neg h1]
      by_cases h2 : j = c
      · subst h2
        rw [if_pos List.mem_cons_self, if_neg hca, if_pos rfl]
      · have h4 : ¬ j ∈ c :: cs := fun h => by rcases List.mem_cons.mp h with h | h; exact h2 h; exact h1 h
        by_cases h3 : j = a
        · have n2 : ¬ a = c := fun h => hca h.symm
          simp only [h4, h3 ▸ h4, h3, n2, if_true, if_false, List.map_cons, List.sum_cons]; omega
        · simp only [h4, h3, h2, if_false]
theorem bitsL_nodup (p n : Nat) : (bitsL p n).Nodup := List.Nodup.sublist List.filter_sublist List.nodup_range
/-- a star brings a part to 0 -/
theorem aft_starL {p : Nat} {F : Nat → Int} (h0 : sumB B n p = 0) (hF : ∀ c ∈ bitsL p n, F c = B c) : aft F (starL B n p) = fun j => if j ∈ bitsL p n then 0 else F j := by
  unfold starL
  unfold sumB at h0
  have hd := bitsL_nodup p n
  cases e : bitsL p n with
  | nil =>
    funext j
    rw [if_neg List.not_mem_nil]; rfl
  | cons a cs =>
    rw [e] at hd h0 hF
    have hd' := List.nodup_cons.mp hd
    show aft F (cs.flatMap (star1 B a)) = _
    rw [aft_star cs F hd'.2 hd'.1 fun c hc => hF c (List.mem_cons_of_mem _ hc)]
    funext j
    rw [List.map_cons, List.sum_cons] at h0
    by_cases h1 : j ∈ cs
    · rw [if_pos h1, if_pos (List.mem_cons_of_mem _ h1)]
    · rw [if_neg h1]
      by_cases h2 : j = a
      · rw [if_pos h2, if_pos (h2 ▸ List.mem_cons_self), hF a List.mem_cons_self]; exact h0
      · rw [if_neg h2, if_neg (fun h => by rcases List.mem_cons.mp h with h | h; exact h2 h; exact h1 h)]
/-- all the stars -/
theorem aft_all (hn : n ≤ 6) : ∀ (l : List Nat) (S : Nat) (F : Nat → Int), S < 64 → IsF B n l S → (∀ c, c < n → S.testBit c = true → F c = B c) → ∀ j, j < n → aft F (l.flatMap (starL B n)) j = if ∃ p ∈ l, p.testBit j = true then 0 else F j
  | [], S, F, _, _, _, j, _ => by
    rw [if_neg (by rintro ⟨p, hp, _⟩; cases hp)]; rfl
  | p :: l, S, F, hS, ⟨k1, k2, k3, k4⟩, hF, j, hj => by
    have hp := sub_le k2
    rw [List.flatMap_cons, aft_append, aft_starL k3 fun c hc => by
      obtain ⟨h1, h2⟩ := mem_bitsL.mp hc
      exact hF c h1 (sub_bit S hS p (by omega) k2 c (by omega) h2)]
    rw [aft_all hn l (S - p) _ (by omega) k4 (fun c hc hb => by
      have h2 := bit_cut S hS p (by omega) k2 c (by omega)
      rw [h2, Bool.and_eq_true] at hb
      show (if c ∈ bitsL p n then (0 : Int) else F c) = _
      rw [if_neg (fun h => by have := (mem_bitsL.mp h).2; rw [this] at hb; exact absurd hb.2 (by decide))]
      exact hF c hc hb.1) j hj]
    by_cases h1 : ∃ q ∈ l, q.testBit j = true
    · obtain ⟨q, hq, hb⟩ := h1
      rw [if_pos ⟨q, hq, hb⟩, if_pos ⟨q, List.mem_cons_of_mem _ hq, hb⟩]
    · rw [if_neg h1]
      by_cases h2 : p.testBit j = true
      · rw [if_pos (mem_bitsL.mpr ⟨hj, h2⟩), if_pos ⟨p, List.mem_cons_self, h2⟩]
      · rw [if_neg (fun h => h2 (mem_bitsL.mp h).2), if_neg]
        rintro ⟨q, hq, hb⟩
        rcases List.mem_cons.mp hq with rfl | hq
        · exact h2 hb
        · exact h1 ⟨q, hq, hb⟩
/-- each payment is one between two persons -/
theorem ok_star {p : Nat} : ∀ x ∈ starL B n p, ok1 n x = true := by
  intro x hx
  unfold starL at hx
  have hd := bitsL_nodup p n
  have hm : ∀ k ∈ bitsL p n, k < n := fun k hk => (mem_bitsL.mp hk).1
  cases e : bitsL p n with
  | nil => rw [e] at hx; cases hx
  | cons a cs =>
    rw [e] at hx hm hd
    obtain ⟨c, hc, hx⟩ := List.mem_flatMap.mp hx
    have h1 := hm a List.mem_cons_self
    have h2 := hm c (List.mem_cons_of_mem _ hc)
    have h3 : c ≠ a := fun h => (List.nodup_cons.mp hd).1 (h ▸ hc)
    unfold star1 at hx
    rcases List.mem_append.mp hx with hx | hx
    · split at hx
      · rename_i hpos
        rw [List.mem_singleton.mp hx]
        unfold ok1
        exact decide_eq_true ⟨by simp, by simp; omega, by simp, by simp; omega, by simp; omega, by simp; omega⟩
      · cases hx
    · split at hx
      · rename_i hpos
        rw [List.mem_singleton.mp hx]
        unfold ok1
        exact decide_eq_true ⟨by simp, by simp; omega, by simp, by simp; omega, by simp; omega, by simp; omega⟩
      · cases hx
theorem star_len {p : Nat} (h1 : bitsL p n ≠ []) (h : ∀ a cs, bitsL p n = a :: cs → ∀ c ∈ cs, B c ≠ 0) : (starL B n p).length + 1 = (bitsL p n).length := by
  unfold starL
  cases e : bitsL p n with
  | nil => exact absurd e h1
  | cons a cs =>
    have h := h a cs e
    show (cs.flatMap (star1 B a)).length + 1 = cs.length + 1
    congr 1
    clear e
    induction cs with
    | nil => rfl
    | cons c cs ih =>
      rw [List.flatMap_cons, List.length_append, ih fun x hx => h x (List.mem_cons_of_mem _ hx)]
      have := h c List.mem_cons_self
      unfold star1
      by_cases h1 : 0 < B c
      · rw [if_pos h1, if_neg (by omega)]; simp; omega
      · rw [if_neg h1, if_pos (by omega)]; simp; omega
/-- the order of a family is free -/
theorem IsF.perm {l m : List Nat} (h : l.Perm m) : ∀ S, S < 64 → IsF B n l S → IsF B n m S := by
  induction h with
  | nil => exact fun _ _ h => h
  | cons x _ ih =>
    rintro S hS ⟨k1, k2, k3, k4⟩
    exact ⟨k1, k2, k3, ih _ (by omega) k4⟩
  | swap x y l =>
    rintro S hS ⟨k1, k2, k3, j1, j2, j3, j4⟩
    have hy := sub_le k2
    have hx := sub_le j2
    obtain ⟨c1, c2, c3⟩ := cut_sub S hS y (by omega) k2 x (by omega) j2
    exact ⟨j1, c1, j3, k1, c2, k3, by rw [← c3]; exact j4⟩
  | trans _ _ ih1 ih2 => exact fun S hS h => ih2 S hS (ih1 S hS h)
theorem card_sum (n S : Nat) : sumB (fun _ => 1) n S = (bitsL S n).length := by
  unfold sumB
  generalize bitsL S n = l
  induction l with
  | nil => rfl
  | cons x l ih => rw [List.map_cons, List.sum_cons, ih, List.length_cons]; omega
theorem card_all (hn : n ≤ 6) : ∀ (l : List Nat) (S : Nat), S < 64 → IsF B n l S → (∀ j, j < n → S.testBit j = true → ∃ p ∈ l, p.testBit j = true) → (l.map fun p => (bitsL p n).length).sum = (bitsL S n).length
  | [], S, _, _, h => by
    cases e : bitsL S n with
    | nil => rfl
    | cons a cs =>
      obtain ⟨h1, h2⟩ := mem_bitsL.mp (show a ∈ bitsL S n by rw [e]; exact List.mem_cons_self)
      obtain ⟨p, hp, _⟩ := h a h1 h2
      cases hp
  | p :: l, S, hS, ⟨k1, k2, k3, k4⟩, h => by
    have hp := sub_le k2
    have hc := sum_cut (fun _ => 1) hn hS (show p < 64 by omega) k2
    rw [card_sum, card_sum, card_sum] at hc
    rw [List.map_cons, List.sum_cons, card_all hn l (S - p) (by omega) k4 fun j hj hb => by
      have h2 := bit_cut S hS p (by omega) k2 j (by omega)
      rw [h2, Bool.and_eq_true] at hb
      obtain ⟨q, hq, hqb⟩ := h j hj hb.1
      rcases List.mem_cons.mp hq with rfl | hq
      · rw [hqb] at hb; exact absurd hb.2 (by decide)
      · exact ⟨q, hq, hqb⟩]
    omega
end
end Pw.K66

namespace Pw.K66
open PySem L2 Pw
section
variable {n : Nat} {B : Nat → Int}
theorem msk_sub_sub {S T q : Nat} (h : T &&& S = T) (h2 : q &&& T = q) : (T - q) &&& (S - q) = T - q := msk_iff.mpr fun k hk => by
  have hqS : q &&& S = q := msk_iff.mpr fun k hk => msk_iff.mp h k (msk_iff.mp h2 k hk)
  rw [msk_sub k q T h2, Bool.and_eq_true] at hk
  rw [msk_sub k q S hqS, msk_iff.mp h k hk.1, hk.2]; rfl
theorem IsF.mono : ∀ {l : List Nat} {T S : Nat}, T &&& S = T → IsF B n l T → IsF B n l S
  | [], _, _, _, _ => True.intro
  | q :: l, T, S, h, ⟨k1, k2, k3, k4⟩ => ⟨k1, msk_iff.mpr fun k hk => msk_iff.mp h k (msk_iff.mp k2 k hk), k3, IsF.mono (msk_sub_sub h k2) k4⟩
/-- if the parts cover S, their sums are the sum of S -/
theorem cover_sum (C : Nat → Int) (hn : n ≤ 6) : ∀ (l : List Nat) (S : Nat), S < 64 → IsF B n l S → (∀ j, j < n → S.testBit j = true → ∃ p ∈ l, p.testBit j = true) → (l.map (sumB C n)).sum = sumB C n S
  | [], S, _, _, h => by
    have : bitsL S n = [] := by
      cases e : bitsL S n with
      | nil => rfl
      | cons a cs =>
        obtain ⟨h1, h2⟩ := mem_bitsL.mp (show a ∈ bitsL S n by rw [e]; exact List.mem_cons_self)
        obtain ⟨p, hp, _⟩ := h a h1 h2
        cases hp
    unfold sumB
    rw [this]; rfl
  | p :: l, S, hS, ⟨k1, k2, k3, k4⟩, h => by
    have hp := sub_le k2
    have hc := sum_cut C hn hS (show p < 64 by omega) k2
    rw [List.map_cons, List.sum_cons, cover_sum C hn l (S - p) (by omega) k4 fun j hj hb => by
      have h2 := bit_cut S hS p (by omega) k2 j (by omega)
      rw [h2, Bool.and_eq_true] at hb
      obtain ⟨q, hq, hqb⟩ := h j hj hb.1
      rcases List.mem_cons.mp hq with rfl | hq
      · rw [hqb] at hb; exact absurd hb.2 (by decide)
      · exact ⟨q, hq, hqb⟩]
    omega
theorem isF_sums {l : List Nat} : ∀ {S : Nat}, IsF B n l S → (l.map (sumB B n)).sum = 0 := by
  induction l with
  | nil => exact fun _ => rfl
  | cons p l ih =>
    rintro S ⟨k1, k2, k3, k4⟩
    rw [List.map_cons, List.sum_cons, k3, ih k4]; rfl
/-- one rider can be taken away -/
theorem Fs_rec (hn : n ≤ 6) {S : Nat} (h1 : 1 ≤ S) (hS : S < 2 ^ n) : ∃ k, k < n ∧ S.testBit k = true ∧ ((Fs B n (S - 2 ^ k)).1 : Int) + gain B n S = (Fs B n S).1 := by
  have hz : 2 ^ n ≤ 64 := Nat.pow_le_pow_right (n := 2) (by omega) hn
  obtain ⟨f1, f2⟩ := Fs_fam (B := B) hn S S (Nat.le_refl _) hS
  have most := fun T (hT : T < 2 ^ n) => Fs_most (B := B) hn T T (Nat.le_refl _) hT
  have fit := fun b hb hbt => Fs_fit (B := B) hn hS (b := b) hb hbt
  by_cases hg : sumB B n S = 0
  · have g1 : gain B n S = 1 := if_pos hg
    have := most S hS [S] ⟨h1, Nat.and_self _, hg, True.intro⟩
    have f1 : (Fs B n S).2.reverse.length = (Fs B n S).1 := by rw [List.length_reverse, f1]
    generalize (Fs B n S).2.reverse = l at f1 f2
    have hl : l.length = (Fs B n S).1 → ∃ k, k < n ∧ S.testBit k = true ∧ ((Fs B n (S - 2 ^ k)).1 : Int) + gain B n S = (Fs B n S).1 := fun hl => by
      cases l with
      | nil => simp at hl; simp at this; omega
      | cons p l =>
        obtain ⟨k1, k2, k3, k4⟩ := f2
        have hp := sub_le k2
        have hne := bitsL_ne (n := n) k1 (by omega)
        obtain ⟨k, hk⟩ := List.exists_mem_of_ne_nil _ hne
        obtain ⟨kn, kb⟩ := mem_bitsL.mp hk
        have hb := msk_iff.mp k2 k kb
        have hsl := Nat.sub_le S (2 ^ k)
        have m1 : (S - p) &&& (S - 2 ^ k) = S - p := msk_iff.mpr fun j hj => by
          rw [msk_sub j p S k2, Bool.and_eq_true] at hj
          rw [msk_sub j _ S (msk_one hb), hj.1, Nat.testBit_two_pow]
          by_cases e : k = j
          · subst e; rw [kb] at hj; exact absurd hj.2 (by decide)
          · rw [decide_eq_false e]; rfl
        have := most (S - 2 ^ k) (by omega) l (IsF.mono m1 k4)
        have := fit k kn hb
        rw [List.length_cons] at hl
        exact ⟨k, kn, hb, by omega⟩
    exact hl f1
  · have g0 : gain B n S = 0 := if_neg hg
    by_cases hc : ∃ k, k < n ∧ S.testBit k = true ∧ ∀ p ∈ (Fs B n S).2.reverse, p.testBit k = false
    · obtain ⟨k, kn, kb, hk⟩ := hc
      have hsl := Nat.sub_le S (2 ^ k)
      have d := IsF.drop (by omega) (by omega) kb f2 hk
      have := most (S - 2 ^ k) (by omega) _ d
      rw [List.length_reverse] at this
      have := fit k kn kb
      exact ⟨k, kn, kb, by omega⟩
    · exfalso
      apply hg
      rw [← cover_sum B hn _ S (by omega) f2 fun j hj hb => by
        by_cases h : ∃ p ∈ (Fs B n S).2.reverse, p.testBit j = true
        · exact h
        · refine absurd ⟨j, hj, hb, fun p hp => ?_⟩ hc
          cases e : p.testBit j with
          | false => rfl
          | true => exact absurd ⟨p, hp, e⟩ h]
      exact isF_sums f2
/-! ### the order -/
def pick (B : Nat → Int) (n S : Nat) : Nat := (((bitsL S n).filter fun k => decide ((Fs B n (S - 2 ^ k)).1 = ((Fs B n S).1 : Int) - gain B n S))).headD 0
theorem pick_ok (hn : n ≤ 6) {S : Nat} (h1 : 1 ≤ S) (hS : S < 2 ^ n) : ∃ k t, ((bitsL S n).filter fun k => decide (((Fs B n (S - 2 ^ k)).1 : Int) = ((Fs B n S).1 : Int) - gain B n S)) = k :: t ∧ pick B n S = k ∧ k < n ∧ S.testBit k = true ∧ ((Fs B n (S - 2 ^ k)).1 : Int) + gain B n S = (Fs B n S).1 := by
  obtain ⟨k, kn, kb, hk⟩ := Fs_rec (B := B) hn h1 hS
  cases e : (bitsL S n).filter fun k => decide (((Fs B n (S - 2 ^ k)).1 : Int) = ((Fs B n S).1 : Int) - gain B n S) with
  | nil =>
    have : k ∈ (bitsL S n).filter fun k => decide (((Fs B n (S - 2 ^ k)).1 : Int) = ((Fs B n S).1 : Int) - gain B n S) := List.mem_filter.mpr ⟨mem_bitsL.mpr ⟨kn, kb⟩, decide_eq_true (by omega)⟩
    rw [e] at this; cases this
  | cons j t =>
    have : j ∈ (bitsL S n).filter fun k => decide (((Fs B n (S - 2 ^ k)).1 : Int) = ((Fs B n S).1 : Int) - gain B n S) := by rw [e]; exact List.mem_cons_self
    obtain ⟨h2, h3⟩ := List.mem_filter.mp this
    obtain ⟨h4, h5⟩ := mem_bitsL.mp h2
    have h3 := of_decide_eq_true h3
    exact ⟨j, t, rfl, by unfold pick; rw [e]; rfl, h4, h5, by omega⟩
/-- the order in which riders are taken away -/
def chn (B : Nat → Int) (n : Nat) : Nat → Nat → List Nat
  | 0, _ => []
  | f + 1, S => if S = 0 then [] else pick B n S :: chn B n f (S - 2 ^ pick B n S)
theorem mem_chn (hn : n ≤ 6) : ∀ (f S : Nat), S ≤ f → S < 2 ^ n → ∀ j, j ∈ chn B n f S ↔ j < n ∧ S.testBit j = true
  | 0, S, hf, hS, j => by
    obtain rfl : S = 0 := by omega
    simp [chn]
  | f + 1, S, hf, hS, j => by
    rw [chn]
    by_cases h0 : S = 0
    · subst h0; simp
    · rw [if_neg h0, List.mem_cons]
      obtain ⟨k, t, _, e, kn, kb, _⟩ := pick_ok (B := B) hn (show 1 ≤ S by omega) hS
      rw [e]
      have pk := Nat.two_pow_pos k
      rw [mem_chn hn f (S - 2 ^ k) (by omega) (by omega) j, msk_sub j _ S (msk_one kb), Nat.testBit_two_pow]
      by_cases ej : k = j
      · subst ej; simp [kn, kb]
      · simp [ej]; intro h; exact absurd h.symm ej
theorem chn_nodup (hn : n ≤ 6) : ∀ (f S : Nat), S ≤ f → S < 2 ^ n → (chn B n f S).Nodup
  | 0, S, hf, hS => List.nodup_nil
  | f + 1, S, hf, hS => by
    rw [chn]
    by_cases h0 : S = 0
    · rw [if_pos h0]; exact List.nodup_nil
    · rw [if_neg h0]
      obtain ⟨k, t, _, e, kn, kb, _⟩ := pick_ok (B := B) hn (show 1 ≤ S by omega) hS
      rw [e]
      have pk := Nat.two_pow_pos k
      refine List.nodup_cons.mpr ⟨fun h => ?_, chn_nodup hn f _ (by omega) (by omega)⟩
      have := ((mem_chn hn f (S - 2 ^ k) (by omega) (by omega) k).mp h).2
      rw [msk_sub k _ S (msk_one kb), kb, Nat.testBit_two_pow_self] at this
      cases this
theorem sumB_zero (C : Nat → Int) : sumB C n 0 = 0 := by
  have : bitsL 0 n = [] := by unfold bitsL; rw [List.filter_eq_nil_iff]; simp
  unfold sumB; rw [this]; rfl
theorem chn_sum (C : Nat → Int) (hn : n ≤ 6) : ∀ (f S : Nat), S ≤ f → S < 2 ^ n → ((chn B n f S).map C).sum = sumB C n S
  | 0, S, hf, hS => by
    obtain rfl : S = 0 := by omega
    rw [sumB_zero]; rfl
  | f + 1, S, hf, hS => by
    have hz : 2 ^ n ≤ 64 := Nat.pow_le_pow_right (n := 2) (by omega) hn
    rw [chn]
    by_cases h0 : S = 0
    · subst h0
      rw [sumB_zero]; rfl
    · rw [if_neg h0]
      obtain ⟨k, t, _, e, kn, kb, _⟩ := pick_ok (B := B) hn (show 1 ≤ S by omega) hS
      rw [e]
      have pk := Nat.two_pow_pos k
      have hb := bit_le kb
      rw [List.map_cons, List.sum_cons, chn_sum C hn f _ (by omega) (by omega), sum_cut C hn (show S < 64 by omega) (show 2 ^ k < 64 by omega) (msk_one kb)]
      congr 1
      have bs1 : ∀ m, bs C (2 ^ k) m = if k < m then C k else 0 := fun m => by
        induction m with
        | zero => rw [if_neg (by omega)]; rfl
        | succ m ih =>
          rw [bs, ih, Nat.testBit_two_pow]
          by_cases h : k = m
          · subst h; simp
          · by_cases h2 : k < m
            · simp [h, h2, show k < m + 1 by omega]
            · simp [h, h2, show ¬ k < m + 1 by omega]
      rw [sumB_bs, bs1, if_pos kn]
/-- how many beginnings of an order have sum 0 -/
def zeros (B : Nat → Int) : Int → List Nat → Nat
  | _, [] => 0
  | w, a :: t => (if w + B a = 0 then 1 else 0) + zeros B (w + B a) t
theorem zeros_snoc (x : Nat) : ∀ (l : List Nat) (w : Int), zeros B w (l ++ [x]) = zeros B w l + if w + (l.map B).sum + B x = 0 then 1 else 0
  | [], w => by simp [zeros]
  | a :: l, w => by
    rw [List.cons_append, zeros, zeros, zeros_snoc x l, List.map_cons, List.sum_cons, ← Int.add_assoc w]
    omega
theorem zeros_chn (hn : n ≤ 6) : ∀ (f S : Nat), S ≤ f → S < 2 ^ n → zeros B 0 (chn B n f S).reverse = (Fs B n S).1
  | 0, S, hf, hS => by
    obtain rfl : S = 0 := by omega
    rfl
  | f + 1, S, hf, hS => by
    rw [chn]
    by_cases h0 : S = 0
    · subst h0; rfl
    · rw [if_neg h0]
      obtain ⟨k, t, _, e, kn, kb, hk⟩ := pick_ok (B := B) hn (show 1 ≤ S by omega) hS
      have cs := chn_sum B hn (B := B) (f + 1) S hf hS
      rw [chn, if_neg h0, e, List.map_cons, List.sum_cons] at cs
      rw [e]
      have pk := Nat.two_pow_pos k
      rw [List.reverse_cons, zeros_snoc, zeros_chn hn f (S - 2 ^ k) (by omega) (by omega)]
      rw [List.map_reverse, List.sum_reverse]
      unfold gain at hk
      by_cases hg : sumB B n S = 0
      · rw [if_pos hg] at hk
        rw [if_pos (by omega)]; omega
      · rw [if_neg hg] at hk
        rw [if_neg (by omega)]; omega
/-! ### the payments along an order -/
def pay1 (o : Int) (a b : Nat) : List Pay := if 0 < o then [((b : Int), (a : Int), o)] else if o < 0 then [((a : Int), (b : Int), -o)] else []
def along (B : Nat → Int) : Int → List Nat → List Pay
  | _, [] => []
  | _, [_] => []
  | w, a :: b :: t => pay1 (w + B a) a b ++ along B (w + B a) (b :: t)
theorem along_len : ∀ (l : List Nat) (w : Int), l ≠ [] → w + (l.map B).sum = 0 → (along B w l).length + zeros B w l = l.length
  | [], _, h, _ => absurd rfl h
  | [a], w, _, h => by
    simp at h
    simp [along, zeros, h]
  | a :: b :: t, w, _, h => by
    rw [List.map_cons, List.sum_cons] at h
    have := along_len (b :: t) (w + B a) (by simp) (by omega)
    rw [along, zeros, List.length_append, List.length_cons (a := a)]
    unfold pay1
    by_cases h1 : 0 < w + B a
    · rw [if_pos h1, if_neg (by omega)]; simp at this ⊢; omega
    · by_cases h2 : w + B a < 0
      · rw [if_neg h1, if_pos h2, if_neg (by omega)]; simp at this ⊢; omega
      · rw [if_neg h1, if_neg h2, if_pos (by omega)]; simp at this ⊢; omega
theorem along_aft : ∀ (l : List Nat) (w : Int) (F : Nat → Int), l.Nodup → w + (l.map B).sum = 0 → (∀ a t, l = a :: t → F a = w + B a ∧ ∀ x ∈ t, F x = B x) → ∀ j ∈ l, aft F (along B w l) j = 0
  | [], _, _, _, _, _, j, hj => by cases hj
  | [a], w, F, _, h, hF, j, hj => by
    obtain rfl := List.mem_singleton.mp hj
    simp at h
    show F j = 0
    rw [(hF j [] rfl).1]; exact h
  | a :: b :: t, w, F, hd, h, hF, j, hj => by
    obtain ⟨fa, ft⟩ := hF a (b :: t) rfl
    have hd' := List.nodup_cons.mp hd
    have hne : a ≠ b := fun e => hd'.1 (e ▸ List.mem_cons_self)
    have hne' : ¬ b = a := fun e => hne e.symm
    have fb := ft b List.mem_cons_self
    rw [along, aft_append]
    have hG : aft F (pay1 (w + B a) a b) = fun j => if j = a then 0 else if j = b then w + B a + B b else F j := by
      funext j
      unfold pay1
      by_cases h1 : 0 < w + B a
      · rw [if_pos h1]
        simp only [aft, List.foldl_cons, List.foldl_nil, st2, st1, Int.toNat_natCast]
        by_cases e : j = a
        · simp only [e, hne, if_true, if_false]; omega
        · by_cases e2 : j = b
          · simp only [e2, hne', if_true, if_false]; omega
          · simp only [e, e2, if_false]
      · by_cases h2 : w + B a < 0
        · rw [if_neg h1, if_pos h2]
          simp only [aft, List.foldl_cons, List.foldl_nil, st2, st1, Int.toNat_natCast]
          by_cases e : j = a
          · simp only [e, hne, if_true, if_false]; omega
          · by_cases e2 : j = b
            · simp only [e2, hne', if_true, if_false]; omega
            · simp only [e, e2, if_false]
        · rw [if_neg h1, if_neg h2]
          show F j = _
          by_cases e : j = a
          · rw [if_pos e, e]; omega
          · by_cases e2 : j = b
            · rw [if_neg e, if_pos e2, e2]; omega
            · rw [if_neg e, if_neg e2]
    rw [hG]
    rw [List.map_cons, List.sum_cons] at h
    by_cases e : j = a
    · -- a is not touched again
      subst e
      have keep : ∀ (l : List Nat) (w : Int) (G : Nat → Int), j ∉ l → aft G (along B w l) j = G j := fun l => by
        induction l with
        | nil => exact fun _ _ _ => rfl
        | cons x l ih =>
          cases l with
          | nil => exact fun _ _ _ => rfl
          | cons y l =>
            intro w G hx
            have n1 : ¬ j = x := fun e => hx (e ▸ List.mem_cons_self)
            have n2 : ¬ j = y := fun e => hx (e ▸ List.mem_cons_of_mem _ List.mem_cons_self)
            rw [along, aft_append, ih _ _ (fun h => hx (List.mem_cons_of_mem _ h))]
            unfold pay1
            split
            · simp only [aft, List.foldl_cons, List.foldl_nil, st2, st1, Int.toNat_natCast, n1, n2, if_false]
            · split
              · simp only [aft, List.foldl_cons, List.foldl_nil, st2, st1, Int.toNat_natCast, n1, n2, if_false]
              · rfl
      rw [keep _ _ _ hd'.1, if_pos rfl]
    · refine along_aft (b :: t) (w + B a) _ hd'.2 (by omega) (fun a' t' he => ?_) j (by
        rcases List.mem_cons.mp hj with h | h
        · exact absurd h e
        · exact h)
      obtain ⟨rfl, rfl⟩ := List.cons.inj he
      refine ⟨?_, fun x hx => ?_⟩
      · show (if b = a then (0 : Int) else if b = b then w + B a + B b else F b) = _
        rw [if_neg hne', if_pos rfl]
      · have n1 : ¬ x = a := fun e => hd'.1 (e ▸ List.mem_cons_of_mem _ hx)
        have n2 : ¬ x = b := fun e => (List.nodup_cons.mp hd'.2).1 (e ▸ hx)
        show (if x = a then (0 : Int) else if x = b then w + B a + B b else F x) = _
        rw [if_neg n1, if_neg n2]; exact ft x (List.mem_cons_of_mem _ hx)
theorem along_ok : ∀ (l : List Nat) (w : Int), l.Nodup → (∀ x ∈ l, x < n) → ∀ p ∈ along B w l, ok1 n p = true
  | [], _, _, _, _, hp => by cases hp
  | [a], _, _, _, _, hp => by cases hp
  | a :: b :: t, w, hd, hm, p, hp => by
    have hd' := List.nodup_cons.mp hd
    rw [along] at hp
    have ha := hm a List.mem_cons_self
    have hb := hm b (List.mem_cons_of_mem _ List.mem_cons_self)
    have hne : a ≠ b := fun e => hd'.1 (e ▸ List.mem_cons_self)
    rcases List.mem_append.mp hp with hp | hp
    · unfold pay1 at hp
      split at hp
      · rw [List.mem_singleton.mp hp]
        unfold ok1
        exact decide_eq_true ⟨by simp, by simp; omega, by simp, by simp; omega, by simp; omega, by simp; omega⟩
      · split at hp
        · rw [List.mem_singleton.mp hp]
          unfold ok1
          exact decide_eq_true ⟨by simp, by simp; omega, by simp, by simp; omega, by simp; omega, by simp; omega⟩
        · cases hp
    · exact along_ok (b :: t) _ hd'.2 (fun x hx => hm x (List.mem_cons_of_mem _ hx)) p hp
end
end Pw.K66

namespace Pw.K66
open PySem L2 Pw
section
variable {n : Nat} {B C D : Nat → Int}
theorem sumB_congr {q : Nat} (h : ∀ k, k < n → q.testBit k = true → C k = D k) : sumB C n q = sumB D n q := by
  unfold sumB
  congr 1
  exact List.map_congr_left fun k hk => h k (mem_bitsL.mp hk).1 (mem_bitsL.mp hk).2
theorem sumB_one (C : Nat → Int) {k : Nat} (kn : k < n) : sumB C n (2 ^ k) = C k := by
  have bs1 : ∀ m, bs C (2 ^ k) m = if k < m then C k else 0 := fun m => by
    induction m with
    | zero => rw [if_neg (by omega)]; rfl
    | succ m ih =>
      rw [bs, ih, Nat.testBit_two_pow]
      by_cases h : k = m
      · subst h; simp
      · by_cases h2 : k < m
        · simp [h, h2, show k < m + 1 by omega]
        · simp [h, h2, show ¬ k < m + 1 by omega]
  rw [sumB_bs, bs1, if_pos kn]
/-- a part with both persons of a payment keeps its sum -/
theorem sumB_both (hn : n ≤ 6) {q g t : Nat} (hq : q < 64) (gn : g < n) (tn : t < n) (hgt : g ≠ t) (hg : q.testBit g = true) (ht : q.testBit t = true) (h : C g + C t = D g + D t) (ho : ∀ k, k ≠ g → k ≠ t → C k = D k) : sumB C n q = sumB D n q := by
  have m1 := msk_one hg
  have l1 := sub_le m1
  have ht2 : (q - 2 ^ g).testBit t = true := by
    rw [msk_sub t _ q m1, ht, Nat.testBit_two_pow, decide_eq_false hgt]; rfl
  have m2 := msk_one ht2
  have l2 := sub_le m2
  have c1 := fun E => sum_cut E hn hq (show 2 ^ g < 64 by omega) m1
  have c2 := fun E => sum_cut E hn (show q - 2 ^ g < 64 by omega) (show 2 ^ t < 64 by omega) m2
  have c3 : sumB C n (q - 2 ^ g - 2 ^ t) = sumB D n (q - 2 ^ g - 2 ^ t) := sumB_congr fun k _ hk => by
    rw [msk_sub k _ _ m2, msk_sub k _ q m1, Nat.testBit_two_pow, Nat.testBit_two_pow] at hk
    simp at hk
    exact ho k (fun e => hk.1.2 e.symm) fun e => hk.2 e.symm
  rw [c1 C, c1 D, c2 C, c2 D, sumB_one _ gn, sumB_one _ gn, sumB_one _ tn, sumB_one _ tn, c3]
  omega
theorem IsF.congr : ∀ {l : List Nat} {S : Nat}, IsF C n l S → (∀ p ∈ l, ∀ k, k < n → p.testBit k = true → C k = D k) → IsF D n l S
  | [], _, _, _ => True.intro
  | p :: l, S, ⟨k1, k2, k3, k4⟩, h => ⟨k1, k2, by rw [← sumB_congr (h p List.mem_cons_self)]; exact k3, IsF.congr k4 fun q hq => h q (List.mem_cons_of_mem _ hq)⟩
theorem IsF.off {p S : Nat} (hS : S < 64) (h : p &&& S = p) {l : List Nat} (hl : IsF C n l (S - p)) : ∀ q ∈ l, ∀ k, p.testBit k = true → q.testBit k = false := fun q hq k hk => by
  obtain ⟨h1, _⟩ := IsF.mem (by omega) hl q hq
  cases e : q.testBit k with
  | false => rfl
  | true => have := msk_off h h1 e; rw [hk] at this; cases this
theorem IsF.take2 {S p : Nat} (hS : S < 64) : ∀ {l : List Nat}, IsF C n l S → p ∈ l → ∃ l', l'.length + 1 = l.length ∧ IsF C n (p :: l') S ∧ ∀ x ∈ l', x ∈ l
  | [], _, hp => by cases hp
  | q :: l, h, hp => by
    rcases List.mem_cons.mp hp with rfl | hp
    · exact ⟨l, rfl, h, fun x hx => List.mem_cons_of_mem _ hx⟩
    · obtain ⟨h1, h2, h3, h4⟩ := h
      have hq := sub_le h2
      obtain ⟨l', e, ⟨k1, k2, k3, k4⟩, km⟩ := IsF.take2 (S := S - q) (by omega) h4 hp
      have kp := sub_le k2
      have c := cut_sub S hS q (by omega) h2 p (by omega) k2
      refine ⟨q :: l', by simp [← e], ⟨k1, c.1, k3, h1, c.2.1, h3, ?_⟩, fun x hx => ?_⟩
      · rw [← c.2.2]; exact k4
      · rcases List.mem_cons.mp hx with rfl | hx
        · exact List.mem_cons_self
        · exact List.mem_cons_of_mem _ (km x hx)
def sing : Nat → List Nat
  | 0 => []
  | m + 1 => 2 ^ m :: sing m
theorem sing_len : ∀ m, (sing m).length = m
  | 0 => rfl
  | m + 1 => by rw [sing, List.length_cons, sing_len m]
theorem sing_fam (h : ∀ j, j < n → B j = 0) : ∀ m, m ≤ n → IsF B n (sing m) (2 ^ m - 1)
  | 0, _ => True.intro
  | m + 1, hm => by
    have p := Nat.two_pow_pos m
    refine ⟨p, msk_one (by rw [Nat.testBit_two_pow_sub_one]; exact decide_eq_true (by omega)), by rw [sumB_one _ (by omega)]; exact h m (by omega), ?_⟩
    rw [show 2 ^ (m + 1) - 1 - 2 ^ m = 2 ^ m - 1 by rw [Nat.pow_succ]; omega]
    exact sing_fam h m (by omega)
/-- payments that settle leave parts with sum 0, at least as many as they are fewer than the persons -/
theorem pay_family (hn : n ≤ 6) : ∀ (l : List Pay) (B : Nat → Int), (∀ p ∈ l, ok1 n p = true) → (∀ j, j < n → aft B l j = 0) → ∃ fam, IsF B n fam (2 ^ n - 1) ∧ n ≤ fam.length + l.length
  | [], B, _, h => ⟨sing n, sing_fam h n (Nat.le_refl _), by rw [sing_len]; exact Nat.le_refl _⟩
  | p :: l, B, ho, h => by
    have hz : 2 ^ n ≤ 64 := Nat.pow_le_pow_right (n := 2) (by omega) hn
    have hU : 2 ^ n - 1 < 64 := by omega
    obtain ⟨fam, hf, hlen⟩ := pay_family hn l (st2 B p) (fun q hq => ho q (List.mem_cons_of_mem _ hq)) h
    have hp := ho p List.mem_cons_self
    obtain ⟨g, t, c⟩ := p
    unfold ok1 at hp
    obtain ⟨p1, p2, p3, p4, p5, p6⟩ := of_decide_eq_true hp
    simp only at p1 p2 p3 p4 p5 p6
    obtain ⟨g, rfl⟩ : ∃ k : Nat, g = k := ⟨g.toNat, by omega⟩
    obtain ⟨t, rfl⟩ : ∃ k : Nat, t = k := ⟨t.toNat, by omega⟩
    have gn : g < n := by omega
    have tn : t < n := by omega
    have hgt : g ≠ t := by omega
    have htg : ¬ t = g := fun e => hgt e.symm
    have e1 : st2 B ((g : Int), (t : Int), c) g + st2 B ((g : Int), (t : Int), c) t = B g + B t := by
      simp only [st2, st1, Int.toNat_natCast, hgt, htg, if_true, if_false]; omega
    have e2 : ∀ k, k ≠ g → k ≠ t → st2 B ((g : Int), (t : Int), c) k = B k := fun k h1 h2 => by
      simp only [st2, st1, Int.toNat_natCast, h1, h2, if_false]
    generalize st2 B ((g : Int), (t : Int), c) = B' at hf e1 e2
    rw [List.length_cons]
    have same : ∀ (l : List Nat) (S : Nat), IsF B' n l S → (∀ q ∈ l, q.testBit g = false ∧ q.testBit t = false) → IsF B n l S := fun l S hl hq => IsF.congr hl fun q hql k _ hk => e2 k (fun e => by subst e; rw [(hq q hql).1] at hk; cases hk) fun e => by subst e; rw [(hq q hql).2] at hk; cases hk
    by_cases hg : ∃ q ∈ fam, q.testBit g = true
    · obtain ⟨q, hq, hqg⟩ := hg
      obtain ⟨l1, el, k1, k2, k3, k4⟩ := IsF.take hU hf hq
      have q64 : q < 64 := by have := sub_le k2; omega
      have off1 := IsF.off hU k2 k4
      have mono1 : (2 ^ n - 1 - q) &&& (2 ^ n - 1) = 2 ^ n - 1 - q := msk_iff.mpr fun k hk => by
        rw [msk_sub k q _ k2, Bool.and_eq_true] at hk; exact hk.1
      by_cases hqt : q.testBit t = true
      · refine ⟨q :: l1, ⟨k1, k2, ?_, same l1 _ k4 fun x hx => ⟨off1 x hx g hqg, off1 x hx t hqt⟩⟩, by rw [List.length_cons]; omega⟩
        rw [← sumB_both hn q64 gn tn hgt hqg hqt e1 e2]; exact k3
      · have hqt : q.testBit t = false := by simpa using hqt
        by_cases ht : ∃ r ∈ l1, r.testBit t = true
        · obtain ⟨r, hr, hrt⟩ := ht
          obtain ⟨l2, el2, j1, j2, j3, j4⟩ := IsF.take (by omega) k4 hr
          have rle := sub_le j2
          have qle := sub_le k2
          have off2 := IsF.off (by omega) j2 j4
          have off3 : ∀ x ∈ l2, ∀ k, q.testBit k = true → x.testBit k = false := fun x hx k hk => by
            obtain ⟨h1, _⟩ := IsF.mem (by omega) j4 x hx
            have h2 : x &&& (2 ^ n - 1 - q) = x := msk_cut1 j2 h1
            cases e : x.testBit k with
            | false => rfl
            | true => have := msk_off k2 h2 e; rw [hk] at this; cases this
          have hR : (2 ^ n - 1 - q - r) &&& (2 ^ n - 1) = 2 ^ n - 1 - q - r := msk_iff.mpr fun k hk => by
            rw [msk_sub k r _ j2, Bool.and_eq_true] at hk; exact msk_iff.mp mono1 k hk.1
          have eq : q + r = 2 ^ n - 1 - (2 ^ n - 1 - q - r) := by omega
          have bits : ∀ k, (q + r).testBit k = (q.testBit k || r.testBit k) := fun k => by
            rw [eq, msk_sub k _ _ hR, msk_sub k r _ j2, msk_sub k q _ k2]
            cases hU' : (2 ^ n - 1).testBit k with
            | true => cases q.testBit k <;> cases r.testBit k <;> rfl
            | false =>
              cases hq' : q.testBit k with
              | true => have := msk_iff.mp k2 k hq'; rw [hU'] at this; cases this
              | false =>
                cases hr' : r.testBit k with
                | true => have := msk_iff.mp (msk_cut1 k2 j2) k hr'; rw [hU'] at this; cases this
                | false => rfl
          have sub : (q + r) &&& (2 ^ n - 1) = q + r := msk_iff.mpr fun k hk => by
            rw [eq, msk_sub k _ _ hR, Bool.and_eq_true] at hk; exact hk.1
          have mq : q &&& (q + r) = q := msk_iff.mpr fun k hk => by rw [bits, hk]; rfl
          have s0 : sumB B' n (q + r) = 0 := by
            rw [sum_cut B' hn (show q + r < 64 by omega) q64 mq, k3, show q + r - q = r by omega, j3]; rfl
          refine ⟨(q + r) :: l2, ⟨by omega, sub, ?_, ?_⟩, by rw [List.length_cons]; omega⟩
          · rw [← sumB_both hn (by omega) gn tn hgt (by rw [bits, hqg]; rfl) (by rw [bits, hrt, Bool.or_true]) e1 e2]; exact s0
          · rw [show 2 ^ n - 1 - (q + r) = 2 ^ n - 1 - q - r by omega]
            exact same l2 _ j4 fun x hx => ⟨off3 x hx g hqg, off2 x hx t hrt⟩
        · refine ⟨l1, same l1 _ (IsF.mono mono1 k4) fun x hx => ⟨off1 x hx g hqg, ?_⟩, by omega⟩
          cases e : x.testBit t with
          | false => rfl
          | true => exact absurd ⟨x, hx, e⟩ ht
    · have hg' : ∀ x ∈ fam, x.testBit g = false := fun x hx => by
        cases e : x.testBit g with
        | false => rfl
        | true => exact absurd ⟨x, hx, e⟩ hg
      by_cases ht : ∃ r ∈ fam, r.testBit t = true
      · obtain ⟨r, hr, hrt⟩ := ht
        obtain ⟨l1, el, ⟨k1, k2, k3, k4⟩, km⟩ := IsF.take2 hU hf hr
        have off1 := IsF.off hU k2 k4
        have mono1 : (2 ^ n - 1 - r) &&& (2 ^ n - 1) = 2 ^ n - 1 - r := msk_iff.mpr fun k hk => by
          rw [msk_sub k r _ k2, Bool.and_eq_true] at hk; exact hk.1
        -- no part of the rest holds g: all parts are among those of fam
        have hgl : ∀ x ∈ l1, x.testBit g = false := fun x hx => hg' x (km x hx)
        exact ⟨l1, same l1 _ (IsF.mono mono1 k4) fun x hx => ⟨hgl x hx, off1 x hx t hrt⟩, by omega⟩
      · refine ⟨fam, same fam _ hf fun x hx => ⟨hg' x hx, ?_⟩, by omega⟩
        cases e : x.testBit t with
        | false => rfl
        | true => exact absurd ⟨x, hx, e⟩ ht
end
end Pw.K66

namespace Pw.K66
open PySem L2 Pw
section
variable {n : Nat} {B C D : Nat → Int}
theorem full_bits (n : Nat) : bitsL (2 ^ n - 1) n = List.range n := by
  unfold bitsL
  exact List.filter_eq_self.mpr fun j hj => by rw [Nat.testBit_two_pow_sub_one]; exact decide_eq_true (List.mem_range.mp hj)
theorem sumB_full (C : Nat → Int) (n : Nat) : sumB C n (2 ^ n - 1) = (tab n C).sum := by unfold sumB; rw [full_bits]; rfl
theorem sum_pos (h : ∀ j, j < n → 0 ≤ C j) : 0 ≤ (tab n C).sum ∧ ((tab n C).sum = 0 → ∀ j, j < n → C j = 0) := by
  induction n with
  | zero => exact ⟨Int.le_refl _, fun _ j hj => by omega⟩
  | succ n ih =>
    obtain ⟨h1, h2⟩ := ih fun j hj => h j (by omega)
    have := h n (by omega)
    rw [tab_succ, List.sum_append]
    simp only [List.sum_cons, List.sum_nil]
    refine ⟨by omega, fun h0 j hj => ?_⟩
    by_cases e : j = n
    · subst e; omega
    · exact h2 (by omega) j (by omega)
theorem sum_neg (h : ∀ j, j < n → C j ≤ 0) (h0 : (tab n C).sum = 0) : ∀ j, j < n → C j = 0 := by
  induction n with
  | zero => exact fun j hj => by omega
  | succ n ih =>
    have hle : ∀ m, (∀ j, j < m → C j ≤ 0) → (tab m C).sum ≤ 0 := fun m => by
      induction m with
      | zero => exact fun _ => Int.le_refl _
      | succ m ihm =>
        intro h
        have := ihm fun j hj => h j (by omega)
        have := h m (by omega)
        rw [tab_succ, List.sum_append]
        simp only [List.sum_cons, List.sum_nil]; omega
    have h1 := hle n fun j hj => h j (by omega)
    have := h n (by omega)
    rw [tab_succ, List.sum_append] at h0
    simp only [List.sum_cons, List.sum_nil] at h0
    intro j hj
    by_cases e : j = n
    · subst e; omega
    · exact ih (fun j hj => h j (by omega)) (by omega) j (by omega)
def nz (C : Nat → Int) : Nat → Nat
  | 0 => 0
  | n + 1 => nz C n + if C n = 0 then 0 else 1
theorem nz_le (C : Nat → Int) : ∀ n, nz C n ≤ n
  | 0 => Nat.le_refl _
  | n + 1 => by
    rw [nz]
    have := nz_le C n
    split <;> omega
theorem nz_mono : ∀ n, (∀ j, j < n → C j = 0 → D j = 0) → nz D n ≤ nz C n ∧ ((∃ j, j < n ∧ C j ≠ 0 ∧ D j = 0) → nz D n < nz C n)
  | 0, _ => ⟨Nat.le_refl _, fun ⟨j, hj, _⟩ => by omega⟩
  | n + 1, h => by
    obtain ⟨h1, h2⟩ := nz_mono n fun j hj => h j (by omega)
    have := h n (by omega)
    rw [nz, nz]
    constructor
    · by_cases hc : C n = 0
      · rw [if_pos hc, if_pos (this hc)]; omega
      · rw [if_neg hc]; split <;> omega
    · rintro ⟨j, hj, hc, hd⟩
      by_cases e : j = n
      · subst e
        rw [if_pos hd, if_neg hc]; omega
      · have h3 := h2 ⟨j, by omega, hc, hd⟩
        by_cases hc : C n = 0
        · rw [if_pos hc, if_pos (this hc)]; omega
        · rw [if_neg hc]; split <;> omega
theorem max_tab (h1 : 1 ≤ n) (C : Nat → Int) : ∃ j, j < n ∧ (tab n C).max? = some (C j) ∧ ∀ k, k < n → C k ≤ C j := by
  cases e : (tab n C).max? with
  | none =>
    rw [List.max?_eq_none_iff] at e
    have := tab_length n C
    rw [e] at this; simp at this; omega
  | some M =>
    obtain ⟨hm, ha⟩ := List.max?_eq_some_iff.mp e
    obtain ⟨j, hj, rfl⟩ := List.mem_map.mp hm
    exact ⟨j, List.mem_range.mp hj, rfl, fun k hk => ha _ (List.mem_map.mpr ⟨k, List.mem_range.mpr hk, rfl⟩)⟩
theorem min_tab (h1 : 1 ≤ n) (C : Nat → Int) : ∃ j, j < n ∧ (tab n C).min? = some (C j) ∧ ∀ k, k < n → C j ≤ C k := by
  cases e : (tab n C).min? with
  | none =>
    rw [List.min?_eq_none_iff] at e
    have := tab_length n C
    rw [e] at this; simp at this; omega
  | some M =>
    obtain ⟨hm, ha⟩ := List.min?_eq_some_iff.mp e
    obtain ⟨j, hj, rfl⟩ := List.mem_map.mp hm
    exact ⟨j, List.mem_range.mp hj, rfl, fun k hk => ha _ (List.mem_map.mpr ⟨k, List.mem_range.mpr hk, rfl⟩)⟩
theorem find_tab {j : Nat} (hj : j < n) (C : Nat → Int) : ∃ g, g < n ∧ C g = C j ∧ ((tab n fun k => PV.int (C k)).findIdx? fun z => peq z (.int (C j))) = some g := by
  cases e : (tab n fun k => PV.int (C k)).findIdx? fun z => peq z (.int (C j)) with
  | none =>
    rw [List.findIdx?_eq_none_iff] at e
    have := e (.int (C j)) (List.mem_map.mpr ⟨j, List.mem_range.mpr hj, rfl⟩)
    simp at this
  | some g =>
    obtain ⟨hg, hp, _⟩ := List.findIdx?_eq_some_iff_getElem.mp e
    rw [tab_getElem] at hp
    rw [tab_length] at hg
    simp at hp
    exact ⟨g, hg, hp, rfl⟩
theorem shp_ints (h : n ≤ 1000) (C : Nat → Int) : shp (.lst (tab n fun k => .int (C k))) = true := shp_of ⟨by rw [tab_length]; omega, fun x hx => by
  obtain ⟨k, _, rfl⟩ := List.mem_map.mp hx; exact trivial⟩
theorem e_plain (h1 : 1 ≤ n) (hn : n ≤ 6) (h0 : (tab n B).sum = 0) : ∃ v, d_plain_payments [.lst (tab n fun k => .int (B k))] = .ok v ∧ ∃ w : List Pay, v = .lst (w.map penc) ∧ (∀ p ∈ w, ok1 n p = true) ∧ (∀ j, j < n → aft B w j = 0) ∧ w.length ≤ n := by
  have hz : 2 ^ n ≤ 64 := Nat.pow_le_pow_right (n := 2) (by omega) hn
  have hU : 2 ^ n - 1 < 64 := by omega
  refine wp_runP _ fun P hP => ?_
  have s1 : n ≤ 16777216 := by omega
  simp -implicitDefEqProofs [b_plain_payments, s1, -k1_plain_payments]
  refine wp_while (fun k e => ∃ (w : List Pay) (x3 x4 x5 : Option PV), e = [some (.lst (tab n fun k => .int (B k))), some (.lst (tab n fun k => .int (aft B w k))), some (.lst (w.map penc)), x3, x4, x5] ∧ (∀ p ∈ w, ok1 n p = true) ∧ (tab n (aft B w)).sum = 0 ∧ nz (aft B w) n ≤ k ∧ w.length + nz (aft B w) n ≤ n) (k := n) ⟨[], none, none, none, rfl, by simp, h0, nz_le _ _, by show 0 + nz B n ≤ n; have := nz_le B n; omega⟩ ?_
  rintro k e ⟨w, x3, x4, x5, rfl, hok, hs, hk, hl⟩
  obtain ⟨tm, htm, emax, hmax⟩ := max_tab h1 (aft B w)
  obtain ⟨gm, hgm, emin, hmin⟩ := min_tab h1 (aft B w)
  obtain ⟨t, ht, et, ft⟩ := find_tab htm (aft B w)
  obtain ⟨g, hg, eg, fg⟩ := find_tab hgm (aft B w)
  have shp := shp_ints (n := n) (by omega) (aft B w)
  refine ⟨decide (0 < aft B w tm), by simp [emax], fun hb => ?_, fun hb => ?_⟩
  · have hb := of_decide_eq_true hb
    have hneg : aft B w gm < 0 := by
      by_cases h : aft B w gm < 0
      · exact h
      · exfalso
        have := (sum_pos (n := n) (C := aft B w) fun j hj => by have := hmin j hj; omega).2 hs tm htm
        omega
    have hne : t ≠ g := fun e => by subst e; omega
    refine ⟨nz (aft B w) n - 1, ?_, fun P hP => ?_⟩
    · have := (nz_mono (C := aft B w) (D := fun _ => 0) n fun _ _ _ => rfl).2 ⟨tm, htm, by omega, rfl⟩
      omega
    · have hlw : w.length < 16777216 := by omega
      have c1 : (1 : Int) ≤ if aft B w t < -aft B w g then aft B w t else -aft B w g := by split <;> omega
      have c2 : (if aft B w t < -aft B w g then aft B w t else -aft B w g) = aft B w t ∨ (if aft B w t < -aft B w g then aft B w t else -aft B w g) = -aft B w g := by
        split
        · exact .inl rfl
        · exact .inr rfl
      have eap := aft_append B w
      simp -implicitDefEqProofs [lp1_plain_payments, emax, emin, fg, ft, shp, hg, ht, hlw, -atI_tab]
      generalize (if aft B w t < -aft B w g then aft B w t else -aft B w g) = c at c1 c2 ⊢
      have okp : ok1 n ((g : Int), (t : Int), c) = true := decide_eq_true ⟨by simp, by simp; omega, by simp, by simp; omega, by simp; omega, c1⟩
      have ea := e_after (n := n) (B := aft B w) (l := [((g : Int), (t : Int), c)]) fun p hp => by
        rw [List.mem_singleton.mp hp]; exact okp
      simp only [List.map_cons, List.map_nil, penc] at ea
      simp -implicitDefEqProofs [ea]
      have e0 : aft B (w ++ [((g : Int), (t : Int), c)]) = st2 (aft B w) ((g : Int), (t : Int), c) := eap _
      have htg : ¬ t = g := hne
      have hgt : ¬ g = t := fun e => hne e.symm
      have dg : st2 (aft B w) ((g : Int), (t : Int), c) g = aft B w g + c := by simp only [st2, st1, Int.toNat_natCast, hgt, if_true, if_false]
      have dt : st2 (aft B w) ((g : Int), (t : Int), c) t = aft B w t - c := by simp only [st2, st1, Int.toNat_natCast, htg, if_true, if_false]
      have dk : ∀ k, k ≠ g → k ≠ t → st2 (aft B w) ((g : Int), (t : Int), c) k = aft B w k := fun k h1 h2 => by simp only [st2, st1, Int.toNat_natCast, h1, h2, if_false]
      have e1 := eap [((g : Int), (t : Int), c)]
      have lt : nz (st2 (aft B w) ((g : Int), (t : Int), c)) n < nz (aft B w) n := by
        refine (nz_mono n fun j hj h => ?_).2 ?_
        · rw [dk j (fun e => by subst e; omega) fun e => by subst e; omega]; exact h
        · rcases c2 with h | h
          · exact ⟨t, ht, by omega, by rw [dt, h]; omega⟩
          · exact ⟨g, hg, by omega, by rw [dg, h]; omega⟩
      refine hP _ ⟨w ++ [((g : Int), (t : Int), c)], some (.int (g : Nat)), some (.int (t : Nat)), some (.tup [.int (g : Nat), .int (t : Nat), .int c]), ?_, fun p hp => ?_, ?_, ?_, ?_⟩
      · rw [← e1]; simp [penc]
      · rcases List.mem_append.mp hp with hp | hp
        · exact hok p hp
        · rw [List.mem_singleton.mp hp]; exact okp
      · have bt := fun j (hj : j < n) => show (2 ^ n - 1).testBit j = true by rw [Nat.testBit_two_pow_sub_one]; exact decide_eq_true hj
        rw [e0, ← sumB_full, sumB_both (C := st2 (aft B w) ((g : Int), (t : Int), c)) (D := aft B w) hn hU hg ht (fun e => hne e.symm) (bt g hg) (bt t ht) (by omega) dk, sumB_full]; exact hs
      · rw [e0]; omega
      · rw [e0, List.length_append]; simp; omega
  · have hb := of_decide_eq_false hb
    simp
    exact hP _ ⟨w, rfl, hok, sum_neg (fun j hj => by have := hmax j hj; omega) hs, by omega⟩
end
end Pw.K66

namespace Pw.K66
open PySem L2 Pw
section
variable {n : Nat} {B C D : Nat → Int}
theorem max_labels (hn : n ≤ 6) {S : Nat} (h1 : 1 ≤ S) (hS : S < 2 ^ n) : ((bitsL S n).map fun k => ((Fs B n (S - 2 ^ k)).1 : Int)).max? = some (((Fs B n S).1 : Int) - gain B n S) := by
  rw [List.max?_eq_some_iff]
  obtain ⟨k, kn, kb, hk⟩ := Fs_rec (B := B) hn h1 hS
  constructor
  · exact List.mem_map.mpr ⟨k, mem_bitsL.mpr ⟨kn, kb⟩, by omega⟩
  · intro x hx
    obtain ⟨j, hj, rfl⟩ := List.mem_map.mp hx
    obtain ⟨jn, jb⟩ := mem_bitsL.mp hj
    have := Fs_fit (B := B) hn hS jn jb
    omega
theorem e_gain (hn : n ≤ 20) {S : Nat} (hS : S < 2 ^ n) : d_gain_of [.lst (tab n fun k => .int (B k)), .int (S : Nat)] = .ok (.int (gain B n S)) := by
  have es := e_sum_in (B := B) hn hS
  refine wp_run fun P hP => ?_
  simp -implicitDefEqProofs [b_gain_of, es]
  exact hP
theorem e_labels (h1 : 1 ≤ n) (hn : n ≤ 6) : d_smallest_labels [.lst (tab n fun k => .int (B k))] = .ok (.lst (tab (2 ^ n) fun S => .int ((Fs B n S).1 : Nat))) := by
  have hz : 2 ^ n ≤ 64 := Nat.pow_le_pow_right (n := 2) (by omega) hn
  have hp := Nat.two_pow_pos n
  have ea := e_alone (n := n) (by omega)
  refine wp_run fun P hP => ?_
  have s1 : n < 4611686018427387904 := by omega
  generalize hm : 2 ^ n = m at ea hz hp hP
  have m1 : m < 4611686018427387904 := by omega
  simp -implicitDefEqProofs [b_smallest_labels, s1, ea, m1, -k1_smallest_labels]
  rw [rng1]
  refine wp_forM (fun k e => ∃ x2 x3 x4 : Option PV, e = [some (.lst (tab n fun k => .int (B k))), some (.lst (tab (k + 1) fun S => .int ((Fs B n S).1 : Nat))), x2, x3, x4]) ⟨none, none, none, rfl⟩ ?_ ?_
  · rintro k j e hj ⟨x2, x3, x4, rfl⟩
    refine ⟨_, rfl, fun P hP => ?_⟩
    obtain ⟨hk, hj⟩ := List.getElem?_eq_some_iff.mp hj
    rw [List.getElem_range] at hj
    rw [List.length_range] at hk
    subst hj
    have hS : k + 1 < 2 ^ n := by omega
    have er := e_riders_in (g := k + 1) (m := n) hS (by omega)
    have eg := e_gain (B := B) (S := k + 1) (n := n) (by omega) hS
    have em := max_labels (B := B) hn (show 1 ≤ k + 1 by omega) hS
    have er : d_riders_in [.int ((k + 1 : Nat) : Int)] = _ := er
    have bl := bitsL_length (k + 1) n
    have bl2 : (bitsL (k + 1) n).length ≤ 16777216 := by omega
    rw [tab_succ] at hP
    have hk2 : k + 1 < 16777216 := by omega
    generalize hSd : k + 1 = S at *
    simp -implicitDefEqProofs [lp1_smallest_labels, er, bl2]
    refine wp_compM (fun k => ((Fs B n (S - 2 ^ k)).1 : Int)) PV.int (fun b hb => ⟨_, rfl, ?_⟩) ?_
    · obtain ⟨b1, b2⟩ := mem_bitsL.mp hb
      have eb := e_alone (n := b) (by omega)
      have hle := bit_le b2
      have pz := Nat.two_pow_pos b
      have e1 : (S : Int) - ((2 ^ b : Nat) : Int) = ((S - 2 ^ b : Nat) : Int) := by omega
      have e2 : S - 2 ^ b < S := by omega
      generalize 2 ^ b = z at eb e1 e2 ⊢
      simp [eb, e1, e2]
    · simp -implicitDefEqProofs [em, eg, hk2]
      exact hP _ ⟨_, _, _, rfl⟩
  · rintro e ⟨x2, x3, x4, rfl⟩
    simp
    rw [show m - 1 + 1 = m by omega]
    exact hP
theorem chn_len (hn : n ≤ 6) (f S : Nat) (h : S ≤ f) (hS : S < 2 ^ n) : (chn B n f S).length = (bitsL S n).length := by
  have := chn_sum (B := B) (fun _ => 1) hn f S h hS
  rw [card_sum] at this
  have e : ∀ l : List Nat, (l.map fun _ => (1 : Int)).sum = l.length := fun l => by
    induction l with
    | nil => rfl
    | cons x l ih => rw [List.map_cons, List.sum_cons, ih, List.length_cons]; omega
  rw [e] at this
  omega
theorem e_order (h1 : 1 ≤ n) (hn : n ≤ 6) : d_dividing_order [.lst (tab n fun k => .int (B k)), .lst (tab (2 ^ n) fun S => .int ((Fs B n S).1 : Nat))] = .ok (.lst ((chn B n (2 ^ n - 1) (2 ^ n - 1)).reverse.map fun k => .int (k : Nat))) := by
  have hz : 2 ^ n ≤ 64 := Nat.pow_le_pow_right (n := 2) (by omega) hn
  have hp := Nat.two_pow_pos n
  have hcl := chn_len (B := B) hn (2 ^ n - 1) (2 ^ n - 1) (Nat.le_refl _) (by omega)
  have hbl := bitsL_length (2 ^ n - 1) n
  refine wp_run fun P hP => ?_
  have m1 : 2 ^ n < 4611686018427387904 := by omega
  have e0 : (((2 ^ n : Nat) : Int) - 1) = ((2 ^ n - 1 : Nat) : Int) := by omega
  generalize hU : chn B n (2 ^ n - 1) (2 ^ n - 1) = U at hcl hP
  simp -implicitDefEqProofs [b_dividing_order, m1, -k1_dividing_order, -Int.natCast_pow, e0]
  refine wp_while (fun k e => ∃ (S f : Nat) (w : List Nat) (x4 x5 x6 : Option PV), e = [some (.lst (tab n fun k => .int (B k))), some (.lst (tab (2 ^ n) fun S => .int ((Fs B n S).1 : Nat))), some (.int (S : Nat)), some (.lst (w.map fun k => .int (k : Nat))), x4, x5, x6] ∧ S ≤ f ∧ S < 2 ^ n ∧ w ++ chn B n f S = U ∧ S ≤ k) (k := 2 ^ n - 1) ⟨2 ^ n - 1, 2 ^ n - 1, [], none, none, none, rfl, Nat.le_refl _, by omega, hU, Nat.le_refl _⟩ ?_
  rintro k e ⟨S, f, w, x4, x5, x6, rfl, hf, hS, hw, hk⟩
  have hwl : w.length ≤ 6 := by rw [← hw, List.length_append] at hcl; omega
  refine ⟨decide (0 < S), by simp, fun hb => ?_, fun hb => ?_⟩
  · have hb := of_decide_eq_true hb
    obtain ⟨q, t, ef, ep, qn, qb, hq⟩ := pick_ok (B := B) hn (show 1 ≤ S by omega) hS
    have pz := Nat.two_pow_pos q
    refine ⟨S - 2 ^ q, by omega, fun P hP => ?_⟩
    have er := e_riders_in (g := S) (m := n) hS (by omega)
    have er : d_riders_in [.int (S : Nat)] = _ := er
    have eg := e_gain (B := B) (S := S) (n := n) (by omega) hS
    have bl := bitsL_length S n
    have bl2 : (bitsL S n).length ≤ 16777216 := by omega
    have hw2 : w.length < 16777216 := by omega
    simp -implicitDefEqProofs [lp1_dividing_order, eg, hS, er, bl2, -Int.natCast_pow]
    refine wp_compMF (fun k => decide (((Fs B n (S - 2 ^ k)).1 : Int) = ((Fs B n S).1 : Int) - gain B n S)) (fun k => k) (fun k => .int (k : Nat)) (fun b hb => ⟨_, rfl, ?_, fun _ => by simp⟩) ?_
    · obtain ⟨b1, b2⟩ := mem_bitsL.mp hb
      have eb := e_alone (n := b) (by omega)
      have hle := bit_le b2
      have pz := Nat.two_pow_pos b
      have e1 : (S : Int) - ((2 ^ b : Nat) : Int) = ((S - 2 ^ b : Nat) : Int) := by omega
      have e2 : S - 2 ^ b < 2 ^ n := by omega
      generalize 2 ^ b = z at eb e1 e2 ⊢
      simp [eb, e1, e2]
    · rw [ef]
      have eb := e_alone (n := q) (by omega)
      have hle := bit_le qb
      have e1 : (S : Int) - ((2 ^ q : Nat) : Int) = ((S - 2 ^ q : Nat) : Int) := by omega
      have hc : chn B n f S = q :: chn B n (f - 1) (S - 2 ^ q) := by
        obtain ⟨f, rfl⟩ : ∃ g, f = g + 1 := ⟨f - 1, by omega⟩
        rw [chn, if_neg (by omega), ep]; rfl
      have e3 : S - 2 ^ q < 2 ^ n := by omega
      have e4 : S - 2 ^ q ≤ f - 1 := by omega
      rw [hc] at hw
      simp -implicitDefEqProofs [eb, e1, hw2, -Int.natCast_pow]
      refine hP _ ⟨S - 2 ^ q, f - 1, w ++ [q], _, _, x6, by simp; exact ⟨rfl, rfl⟩, e4, e3, by rw [List.append_assoc]; exact hw, Nat.le_refl _⟩
  · have hb := of_decide_eq_false hb
    obtain rfl : S = 0 := by omega
    have : chn B n f 0 = [] := by cases f <;> rfl
    rw [this, List.append_nil] at hw
    subst hw
    simp
    rw [List.map_reverse] at hP
    exact hP
theorem along_snoc (a b : Nat) : ∀ (l : List Nat) (w : Int), along B w (l ++ [a, b]) = along B w (l ++ [a]) ++ pay1 (w + (l.map B).sum + B a) a b
  | [], w => by simp [along]
  | [x], w => by simp [along, Int.add_assoc]
  | x :: y :: l, w => by
    have := along_snoc a b (y :: l) (w + B x)
    simp only [List.cons_append, along, List.map_cons, List.sum_cons] at this ⊢
    rw [this, List.append_assoc, ← Int.add_assoc w]
theorem along_short : ∀ (l : List Nat) (w : Int), (along B w l).length + 1 ≤ l.length + 1
  | [], _ => by simp [along]
  | [a], _ => by simp [along]
  | a :: b :: t, w => by
    have := along_short (b :: t) (w + B a)
    rw [along, List.length_append, List.length_cons (a := a)]
    have : (pay1 (w + B a) a b).length ≤ 1 := by unfold pay1; split <;> (try split) <;> simp
    omega
theorem e_along (h1 : 1 ≤ n) (hn : n ≤ 6) {o : List Nat} (ho : ∀ x ∈ o, x < n) (h2 : 1 ≤ o.length) (h3 : o.length ≤ 6) : d_payments_along [.lst (tab n fun k => .int (B k)), .lst (o.map fun k => .int (k : Nat))] = .ok (.lst ((along B 0 o).map penc)) := by
  refine wp_run fun P hP => ?_
  have s1 : o.length < 4611686018427387904 := by omega
  have e0 : ((o.length : Int) - 1) = ((o.length - 1 : Nat) : Int) := by omega
  have s2 : ((o.length - 1 : Nat) : Int).natAbs < 4611686018427387904 := by omega
  have s3 : o.length - 1 < 4611686018427387904 := by omega
  simp -implicitDefEqProofs [b_payments_along, s1, e0, s3, -k1_payments_along]
  refine wp_for (fun k e => ∃ x4 : Option PV, e = [some (.lst (tab n fun k => .int (B k))), some (.lst (o.map fun k => .int (k : Nat))), some (.lst ((along B 0 (o.take (k + 1))).map penc)), some (.int ((o.take k).map B).sum), x4]) ⟨none, ?_⟩ ?_ ?_
  · cases o with
    | nil => simp at h2
    | cons a t => rfl
  · rintro k e hk ⟨x4, rfl⟩ P hP
    have g0 : o[k]? = some o[k] := List.getElem?_eq_getElem (by omega)
    have g1 : o[k + 1]? = some o[k + 1] := List.getElem?_eq_getElem (by omega)
    have hl := along_short (B := B) (o.take (k + 1)) 0
    rw [List.length_take] at hl
    have t1 : o.take (k + 1) = o.take k ++ [o[k]] := by rw [List.take_add_one, g0]; rfl
    have t2 : o.take (k + 1 + 1) = o.take k ++ [o[k], o[k + 1]] := by rw [List.take_add_one, t1, g1, List.append_assoc]; rfl
    have a0 : atI (o.map fun k => PV.int (k : Nat)) (k : Int) = some (.int (o[k] : Nat)) := by rw [atI_natCast, List.getElem?_map, g0]; rfl
    have a1 : atI (o.map fun k => PV.int (k : Nat)) ((k : Int) + 1) = some (.int (o[k + 1] : Nat)) := by
      rw [show (k : Int) + 1 = ((k + 1 : Nat) : Int) by omega, atI_natCast, List.getElem?_map, g1]; rfl
    have b0 := ho o[k] (List.getElem_mem _)
    have es : ((o.take (k + 1)).map B).sum = ((o.take k).map B).sum + B o[k] := by rw [t1, List.map_append, List.sum_append]; simp
    have ea := along_snoc (B := B) o[k] o[k + 1] (o.take k) 0
    rw [← t1, ← t2, Int.zero_add] at ea
    rw [ea, es] at hP
    have hl2 : (along B 0 (o.take (k + 1))).length < 16777216 := by omega
    generalize along B 0 (o.take (k + 1)) = w at hP hl2 ⊢
    generalize ((o.take k).map B).sum = s at hP ⊢
    generalize o[k] = a at *
    generalize o[k + 1] = b at *
    by_cases h1 : 0 < s + B a
    · simp -implicitDefEqProofs [lp1_payments_along, a0, a1, b0, h1, hl2, -atI_natCast, -atI_tab, atI_natCast]
      refine hP _ ⟨some (.int (k : Nat)), ?_⟩
      simp [pay1, h1, penc]
    · by_cases h4 : s + B a < 0
      · simp -implicitDefEqProofs [lp1_payments_along, a0, a1, b0, h1, h4, hl2, -atI_natCast, -atI_tab, atI_natCast]
        refine hP _ ⟨some (.int (k : Nat)), ?_⟩
        simp [pay1, h1, h4, penc]
      · simp -implicitDefEqProofs [lp1_payments_along, a0, a1, b0, h1, h4, hl2, -atI_natCast, -atI_tab, atI_natCast]
        refine hP _ ⟨some (.int (k : Nat)), ?_⟩
        simp [pay1, h1, h4]
  · rintro e ⟨x4, rfl⟩
    rw [show o.length - 1 + 1 = o.length by omega, List.take_length]
    simp
    exact hP
abbrev ord (B : Nat → Int) (n : Nat) : List Nat := (chn B n (2 ^ n - 1) (2 ^ n - 1)).reverse
abbrev told (B : Nat → Int) (n : Nat) : List Pay := along B 0 (ord B n)
/-- what the program's payments are -/
theorem told_ok (h1 : 1 ≤ n) (hn : n ≤ 6) (h0 : (tab n B).sum = 0) : (told B n).length + (Fs B n (2 ^ n - 1)).1 = n ∧ settledB n B (told B n) = true ∧ (ord B n).length = n ∧ ∀ x ∈ ord B n, x < n := by
  have hz : 2 ^ n ≤ 64 := Nat.pow_le_pow_right (n := 2) (by omega) hn
  have hp := Nat.two_pow_pos n
  have hlt : 2 ^ n - 1 < 2 ^ n := by omega
  have l1 : (ord B n).length = n := by
    rw [List.length_reverse, chn_len hn _ _ (Nat.le_refl _) hlt, full_bits, List.length_range]
  have mem : ∀ j, j ∈ ord B n ↔ j < n := fun j => by
    rw [List.mem_reverse, mem_chn hn _ _ (Nat.le_refl _) hlt, Nat.testBit_two_pow_sub_one]; simp
  have nd : (ord B n).Nodup := (List.reverse_perm _).symm.nodup (chn_nodup hn _ _ (Nat.le_refl _) hlt)
  have sm : ((ord B n).map B).sum = 0 := by
    rw [List.map_reverse, List.sum_reverse, chn_sum B hn _ _ (Nat.le_refl _) hlt, sumB_full]; exact h0
  have zr : zeros B 0 (ord B n) = (Fs B n (2 ^ n - 1)).1 := zeros_chn hn _ _ (Nat.le_refl _) hlt
  have ne : ord B n ≠ [] := fun e => by rw [e] at l1; simp at l1; omega
  have len := along_len (B := B) (ord B n) 0 ne (by omega)
  have len : (told B n).length + zeros B 0 (ord B n) = (ord B n).length := len
  refine ⟨by omega, ?_, l1, fun x hx => (mem x).mp hx⟩
  unfold settledB
  rw [Bool.and_eq_true]
  refine ⟨List.all_eq_true.mpr fun p hp => along_ok _ _ nd (fun x hx => (mem x).mp hx) p hp, ?_⟩
  have : tab n (fun k => !decide (aft B (told B n) k = 0)) = tab n fun _ => false := tab_ext fun j hj => by
    rw [along_aft _ _ B nd (by omega) (fun a t _ => ⟨by omega, fun _ _ => rfl⟩) j ((mem j).mpr hj)]; rfl
  rw [this]
  clear this len ne zr sm nd mem l1
  unfold tab
  generalize List.range n = r
  induction r with
  | nil => rfl
  | cons x r ih => rw [List.map_cons, List.any_cons]; exact ih
theorem e_fewest (h1 : 1 ≤ n) (hn : n ≤ 6) (h0 : (tab n B).sum = 0) : d_fewest_payments [.lst (tab n fun k => .int (B k))] = .ok (.tup [.lst ((told B n).map penc), .lst (tab (2 ^ n) fun S => .int ((Fs B n S).1 : Nat))]) := by
  obtain ⟨_, _, ol, om⟩ := told_ok h1 hn h0
  have e1 := e_labels (B := B) h1 hn
  have e2 := e_order (B := B) h1 hn
  have e3 := e_along (B := B) h1 hn om (by omega) (by omega)
  refine wp_run fun P hP => ?_
  simp -implicitDefEqProofs [b_fewest_payments, e1, e2, e3, -Int.natCast_pow, -List.map_reverse]
  exact hP
/-- signs do not matter -/
theorem sumB_neg (q : Nat) : sumB (fun k => -B k) n q = -sumB B n q := by
  rw [sumB_bs, sumB_bs]
  induction n with
  | zero => rfl
  | succ n ih => rw [bs, bs, ih]; split <;> omega
theorem IsF.neg : ∀ {l : List Nat} {S : Nat}, IsF B n l S → IsF (fun k => -B k) n l S
  | [], _, _ => True.intro
  | p :: l, S, ⟨k1, k2, k3, k4⟩ => ⟨k1, k2, by rw [sumB_neg, k3]; rfl, IsF.neg k4⟩
theorem Fs_neg_le (hn : n ≤ 6) (S : Nat) (hS : S < 2 ^ n) : (Fs B n S).1 ≤ (Fs (fun k => -B k) n S).1 := by
  obtain ⟨f1, f2⟩ := Fs_fam (B := B) hn S S (Nat.le_refl _) hS
  have := Fs_most (B := fun k => -B k) hn S S (Nat.le_refl _) hS _ (IsF.neg f2)
  rw [List.length_reverse] at this; omega
theorem Fs_neg (hn : n ≤ 6) (S : Nat) (hS : S < 2 ^ n) : (Fs (fun k => -B k) n S).1 = (Fs B n S).1 := by
  have h1 := Fs_neg_le (B := B) hn S hS
  have h2 := Fs_neg_le (B := fun k => -B k) hn S hS
  have : (fun k => -(fun k => -B k) k) = B := by funext k; simp
  rw [this] at h2
  omega
end
end Pw.K66

namespace Pw.K66
open PySem L2 Pw
section
variable {n : Nat} {B : Nat → Int}
theorem fam_total (hn : n ≤ 6) : ∀ (l : List Nat) (S : Nat), S < 2 ^ n → IsF B n l S → (∀ j, j < n → S.testBit j = true → ∃ p ∈ l, p.testBit j = true) → l.sum = S
  | [], S, hS, _, h => by
    rcases Nat.eq_zero_or_pos S with rfl | hp
    · rfl
    · exfalso
      have := bitsL_ne (n := n) hp hS
      obtain ⟨k, hk⟩ := List.exists_mem_of_ne_nil _ this
      obtain ⟨kn, kb⟩ := mem_bitsL.mp hk
      obtain ⟨p, hp, _⟩ := h k kn kb
      cases hp
  | p :: l, S, hS, ⟨k1, k2, k3, k4⟩, h => by
    have hp := sub_le k2
    rw [List.sum_cons, fam_total hn l (S - p) (by omega) k4 fun j hj hb => by
      rw [msk_sub j p S k2, Bool.and_eq_true] at hb
      obtain ⟨q, hq, hqb⟩ := h j hj hb.1
      rcases List.mem_cons.mp hq with rfl | hq
      · rw [hqb] at hb; exact absurd hb.2 (by decide)
      · exact ⟨q, hq, hqb⟩]
    omega
theorem parts_total (h1 : 1 ≤ n) (hn : n ≤ 6) (h0 : (tab n B).sum = 0) : (Fs B n (2 ^ n - 1)).2.sum = 2 ^ n - 1 := by
  have hz : 2 ^ n ≤ 64 := Nat.pow_le_pow_right (n := 2) (by omega) hn
  have hp := Nat.two_pow_pos n
  have hb : ∀ j, j < n → (2 ^ n - 1).testBit j = true := fun j hj => by rw [Nat.testBit_two_pow_sub_one]; exact decide_eq_true hj
  have hs : sumB B n (2 ^ n - 1) = 0 := by rw [sumB_full]; exact h0
  obtain ⟨f1, f2⟩ := Fs_fam (B := B) hn (2 ^ n - 1) (2 ^ n - 1) (Nat.le_refl _) (by omega)
  have most := Fs_most (B := B) hn (2 ^ n - 1) (2 ^ n - 1) (Nat.le_refl _) (by omega)
  have fam : IsF B n (Fs B n (2 ^ n - 1)).2 (2 ^ n - 1) := IsF.perm (List.reverse_perm _) _ (by omega) f2
  refine fam_total hn _ _ (by omega) fam fun j hj _ => ?_
  by_cases h : ∃ p ∈ (Fs B n (2 ^ n - 1)).2, p.testBit j = true
  · exact h
  · have d := IsF.drop (b := j) (by omega) (by omega) (hb j hj) fam fun p hp' => by
      cases e : p.testBit j with
      | false => rfl
      | true => exact absurd ⟨p, hp', e⟩ h
    obtain ⟨l', e, k⟩ := IsF.more hn (by omega) _ _ (by omega) (hb j hj) hs d
    have := most l' k
    omega
theorem sum_neg0 (h0 : (tab n B).sum = 0) : (tab n fun k => -B k).sum = 0 := by
  rw [← sumB_full, sumB_neg, sumB_full, h0]; rfl
theorem dp_tab {c : Nat} (hc : c ≤ 1000) (x : Nat → Int) : Dp 14 (.lst (tab c fun k => .int (x k))) := ⟨by rw [tab_length]; omega, fun y hy => by
  obtain ⟨k, _, rfl⟩ := List.mem_map.mp hy; exact trivial⟩
theorem e_numbers (a b c : Int) : d_law_numbers [.lst [.int a, .int b, .int c]] = .ok (.bl true) := by
  refine wp_run fun P hP => ?_
  have e := fun i => show Lib.d_is_whole [.int i] = .ok (.bl true) by simp [Lib.d_is_whole, Lib.b_is_whole]
  have e := fun i => show d_law_is_number [.int i] = .ok (.bl true) from e i
  simp -implicitDefEqProofs [b_law_numbers, compL, e]
  exact hP
theorem nat_sum : ∀ l : List Nat, (l.map fun k : Nat => (k : Int)).sum = (l.sum : Nat)
  | [] => rfl
  | x :: l => by rw [List.map_cons, List.sum_cons, nat_sum l, List.sum_cons]; omega
theorem law_run {ns : List Int} {Bd : Nat} (hb : ∀ z ∈ ns, z.natAbs < 2 ^ Bd) (hB : Bd ≤ 1048576) : d_law [.ro ns] = .ok (.bl true) := by
  obtain ⟨n, B, eb, h1, hn, h0⟩ := e_balances hb hB (most := 6) (by omega) (by omega)
  have eb : d_law_fewest_balances [.ro ns, .int 6] = _ := eb
  have hz : 2 ^ n ≤ 64 := Nat.pow_le_pow_right (n := 2) (by omega) hn
  have hpz := Nat.two_pow_pos n
  have ep := e_most_parts (B := B) h1 hn
  have ef := e_fewest h1 hn h0
  obtain ⟨t1, t2, _, _⟩ := told_ok h1 hn h0
  obtain ⟨_, epl, w, rfl, w1, w2, w3⟩ := e_plain h1 hn h0
  obtain ⟨fam, fm1, fm2⟩ := pay_family hn w B w1 w2
  have fm3 := Fs_most hn _ _ (Nat.le_refl _) (by omega) fam fm1
  have h0' := sum_neg0 h0
  have ef2 := e_fewest h1 hn h0'
  obtain ⟨u1, _, _, _⟩ := told_ok h1 hn h0'
  rw [Fs_neg hn _ (by omega)] at u1
  have pt := parts_total h1 hn h0
  have lk1 : d_law_like [.lst (tab n fun k => .int (B k)), .lst (tab n fun k => .int (B k))] = _ := e_like (dp_tab (by omega) B)
  have lk2 : d_law_like [.lst (tab (2 ^ n) fun S => .int ((Fs B n S).1 : Nat)), .lst (tab (2 ^ n) fun S => .int ((Fs B n S).1 : Nat))] = _ := e_like (dp_tab (by omega) fun S => ((Fs B n S).1 : Nat))
  have est := e_settles (B := B) (l := told B n) hn (by omega)
  have els := e_law_settled (B := B) (l := told B n) hn (by omega)
  have ejd := e_judge (B := B) (l := told B n) (m := 2 ^ n) (L := fun S => ((Fs B n S).1 : Int)) h1 hn (by omega) (by omega)
  have due : dueB n (2 ^ n) B (fun S => ((Fs B n S).1 : Int)) (told B n) = true := by
    unfold dueB
    rw [t2, Fs_fits hn, Bool.true_and, Bool.true_and]
    exact decide_eq_true (show ((told B n).length : Int) = (n : Int) - ((Fs B n (2 ^ n - 1)).1 : Int) by omega)
  rw [due] at ejd
  rw [t2] at est els
  have eL : (tab (2 ^ n) fun S => PV.int ((Tb B n (2 ^ n - 1) S).1 : Nat)) = tab (2 ^ n) fun S => .int ((Fs B n S).1 : Nat) := tab_ext fun j hj => by rw [Tb_low _ _ (by omega)]
  have eN : (tab (2 ^ n) fun S => PV.int ((Fs (fun k => -B k) n S).1 : Nat)) = tab (2 ^ n) fun S => .int ((Fs B n S).1 : Nat) := tab_ext fun j hj => by rw [Fs_neg hn j hj]
  rw [eN] at ef2
  have iU : atI (tab (2 ^ n) fun S => enc2 (Tb B n (2 ^ n - 1) S)) (((2 ^ n : Nat) : Int) - 1) = some (.tup [.int (Fs B n (2 ^ n - 1)).1, .lst ((Fs B n (2 ^ n - 1)).2.map fun k => .int (k : Nat))]) := by
    rw [atI_tab, if_pos (by omega), show (((2 ^ n : Nat) : Int) - 1).toNat = 2 ^ n - 1 by omega]; rfl
  have ns0 := nat_sum (Fs B n (2 ^ n - 1)).2
  rw [pt] at ns0
  have e1 : ((2 ^ n - 1 : Nat) : Int) = ((2 ^ n : Nat) : Int) - 1 := by omega
  have fl : (Fs B n (2 ^ n - 1)).1 ≤ 6 := by omega
  have ec : ∀ e : Env, 6 < e.length → compL (tgS (.n 6)) tYesD (eOp oIx (eV 6) (eC (.int 0))) e (tab (2 ^ n) fun S => enc2 (Tb B n (2 ^ n - 1) S)) = .ok (tab (2 ^ n) fun S => .int ((Fs B n S).1 : Nat)) := fun e he => by
    rw [← eL]
    exact compT fun k _ => by simp [eV, List.getElem?_set_self he]
  generalize hF : Fs B n (2 ^ n - 1) = FU at *
  generalize hT : told B n = T at *
  generalize (told (fun k => -B k) n) = T2 at *
  generalize hL : (tab (2 ^ n) fun S => PV.int ((Fs B n S).1 : Nat)) = L at *
  generalize hE : (tab (2 ^ n) fun S => enc2 (Tb B n (2 ^ n - 1) S)) = E at *
  have lE : E.length = 2 ^ n := by rw [← hE, tab_length]
  have mz : 2 ^ n ≤ 16777216 := by omega
  refine wp_run fun P hP => ?_
  have s1 : n < 4611686018427387904 := by omega
  have s2 : n ≤ 16777216 := by omega
  simp -implicitDefEqProofs [b_law, eb, ef, ep, lk1, lE, s1, s2, mz, ec, lk2, -k1_law, -Int.natCast_pow]
  refine wp_forM (fun k e => ∃ x7 : Option PV, e = [some (.ro ns), some (.lst (tab n fun k => .int (B k))), some (.int n), some (.lst (tab n fun k => .int (B k))), some (.tup [.lst (T.map penc), .lst L]), some (.lst E), none, x7, none, none]) ⟨none, rfl⟩ ?_ ?_
  · rintro k q e hq ⟨x7, rfl⟩
    refine ⟨_, rfl, fun P hP => ?_⟩
    have en := e_numbers q.1 q.2.1 q.2.2
    simp -implicitDefEqProofs [lp1_law, penc, en]
    exact hP _ ⟨_, rfl⟩
  · rintro e ⟨x7, rfl⟩
    have s3 : 2 ^ n < 4611686018427387904 := by omega
    have s4 : T.length < 4611686018427387904 := by omega
    have s5 : w.length < 4611686018427387904 := by omega
    have s6 : T2.length < 4611686018427387904 := by omega
    have s7 : ¬ w.length < T.length := by omega
    have s8 : (T.length : Int) = (n : Int) - (FU.1 : Int) := by omega
    have s9 : T2.length = T.length := by omega
    have en : ∀ e : Env, 6 < e.length → compL (tgS (.n 6)) tYesD (eOp oSub (eC (.int 0)) (eV 6)) e (tab n fun k => .int (B k)) = .ok (tab n fun k => .int (-B k)) := fun e he => compT fun k _ => by simp [eV, List.getElem?_set_self he]
    simp -implicitDefEqProofs [s1, s2, s3, s4, s5, s6, s7, lE, iU, ns0, e1, els, est, ejd, lk1, lk2, epl, en, ef2, s9, -Int.natCast_pow]
    rw [if_pos s8]
    simp -implicitDefEqProofs [s1, s2, s3, s4, s5, s6, s7, lE, iU, ns0, e1, els, est, ejd, lk1, lk2, epl, en, ef2, s9, -Int.natCast_pow]
    exact hP
theorem law_holds (ns : List Int) (hl : ns.length ≤ 63) (hb : ∀ z ∈ ns, Builtin.Int.intBits z ≤ 1048576) : d_law [.ro ns] = .ok (.bl true) :=
  law_run (fun z hz => bits_of (hb z hz)) (Nat.le_refl _)
end
end Pw.K66

namespace Pw.K66
open PySem L2 Pw
section
variable {P : Program} {w : World} {K : PySem.W.Frag} {mg : Str → Option Value} {base : Heap}
theorem sc_riders_in : FnScope N_riders_in ps_riders_in (defScope s_riders_in) := ⟨rfl, rfl, rfl, by decide +kernel, rfl, by decide +kernel, by decide +kernel⟩
theorem ok_riders_in {f : Addr} {fd : FuncData} (T : Tx mg) (Fu : L2.Fun K "riders_in" "riders_in" s_riders_in f fd) (b : Binds K fd ps_riders_in []) (hm : mg "riders_in" = some (.ref f))   : Fn P w K mg base "riders_in" 1 ps_riders_in 0 d_riders_in :=
  fn_mk (ds := [0, 0, 0]) (fb := b_riders_in) Fu sc_riders_in b hm 0 (zds 3) fun cd A outer s H F E hr => by
    have nd := (sc_riders_in).nd
    have hu : (A.deeper (PyProof.Rows.envOfC "riders_in" (defScope s_riders_in) s.heap.objs.size f cd)).units + 64 < cLine := hr.units
    have hu5 : (A.deeper (PyProof.Rows.envOfC "riders_in" (defScope s_riders_in) s.heap.objs.size f cd)).units + 65 < cLine := by have := hr.un; omega
    
    exact (qb_cons (ds1 := [0, 1, 0]) (qs_set 1 (qe_lst (d := 1) (by omega) qa_nil) nd) (qb_cons (ds1 := [0, 1, 0]) (qs_set 2 qe_int nd) (qb_cons (ds1 := [0, 1, 0]) (qs_while px_passes (qt_cmp o_gt (qe_rd (qe_v 0)) (qe_rd qe_int) (nomark _)) (qb_cons (ds1 := [0, 1, 0]) (qs_if (ds' := [0, 1, 0]) (qt_cmp (o_eq hu) (qe_rd (qe_op o_mod (qe_rd (qe_v 0)) (qe_rd qe_int))) (qe_rd qe_int) (nomark _)) (qb_cons (ds1 := [0, 1, 0]) (qs_app 1 (qe_v 2)) qb_nil) qb_nil) (qb_cons (ds1 := [0, 1, 0]) (qs_set 0 (qe_op o_div (qe_rd (qe_v 0)) (qe_rd qe_int)) nd) (qb_cons (ds1 := [0, 1, 0]) (qs_aug 2 io_add (qe_rd qe_int) nd) qb_nil)))) (qb_frz 1 (show QB _ [0, 0, 0] _ _ _ from (qb_cons (ds1 := [0, 0, 0]) (qs_ret (d := 0) rfl (qe_v 1)) qb_nil))))))
theorem sc_alone : FnScope N_alone ps_alone (defScope s_alone) := ⟨rfl, rfl, rfl, by decide +kernel, rfl, by decide +kernel, by decide +kernel⟩
theorem ok_alone {f : Addr} {fd : FuncData} (T : Tx mg) (Fu : L2.Fun K "alone" "alone" s_alone f fd) (b : Binds K fd ps_alone []) (hm : mg "alone" = some (.ref f))   : Fn P w K mg base "alone" 1 ps_alone 0 d_alone :=
  fn_mk (ds := [0, 0, 0]) (fb := b_alone) Fu sc_alone b hm 0 (zds 3) fun cd A outer s H F E hr => by
    have nd := (sc_alone).nd
    have hu : (A.deeper (PyProof.Rows.envOfC "alone" (defScope s_alone) s.heap.objs.size f cd)).units + 64 < cLine := hr.units
    have hu5 : (A.deeper (PyProof.Rows.envOfC "alone" (defScope s_alone) s.heap.objs.size f cd)).units + 65 < cLine := by have := hr.un; omega
    
    exact (qb_cons (ds1 := [0, 0, 0]) (qs_set 1 qe_int nd) (qb_cons (ds1 := [0, 0, 0]) (qs_for px_passes rfl (qi_range1 (by rfl) T.z_range (qr_cons (qe_rd (qe_v 0)) qr_nil)) (qg_n 2 (hN := nd)) (qb_cons (ds1 := [0, 0, 0]) (qs_set 1 (qe_op o_mul (qe_rd qe_int) (qe_rd (qe_v 1))) nd) qb_nil)) (qb_cons (ds1 := [0, 0, 0]) (qs_ret (d := 0) rfl (qe_v 1)) qb_nil)))
theorem sc_after_payments : FnScope N_after_payments ps_after_payments (defScope s_after_payments) := ⟨rfl, rfl, rfl, by decide +kernel, rfl, by decide +kernel, by decide +kernel⟩
theorem ok_after_payments {f : Addr} {fd : FuncData} (T : Tx mg) (Fu : L2.Fun K "after_payments" "after_payments" s_after_payments f fd) (b : Binds K fd ps_after_payments []) (hm : mg "after_payments" = some (.ref f))   : Fn P w K mg base "after_payments" 1 ps_after_payments 0 d_after_payments :=
  fn_mk (ds := [0, 0, 0, 0, 0, 0]) (fb := b_after_payments) Fu sc_after_payments b hm 0 (zds 6) fun cd A outer s H F E hr => by
    have nd := (sc_after_payments).nd
    have hu : (A.deeper (PyProof.Rows.envOfC "after_payments" (defScope s_after_payments) s.heap.objs.size f cd)).units + 64 < cLine := hr.units
    have hu5 : (A.deeper (PyProof.Rows.envOfC "after_payments" (defScope s_after_payments) s.heap.objs.size f cd)).units + 65 < cLine := by have := hr.un; omega
    
    exact (qb_cons (ds1 := [0, 0, 1, 0, 0, 0]) (qs_set 2 (qe_callT (c_list (d := 1) (by omega)) (by rfl) T.z_list b_list (qr_cons (qe_rd (qe_v 0)) qr_nil)) nd) (qb_cons (ds1 := [0, 0, 1, 0, 0, 0]) (qs_for px_passes rfl (qi_e (qe_v 1)) (qg_t rfl (qgs_cons (qg_n 3 (hN := nd)) (qgs_cons (qg_n 4 (hN := nd)) (qgs_cons (qg_n 5 (hN := nd)) qgs_nil)))) (qb_cons (ds1 := [0, 0, 1, 0, 0, 0]) (qs_putA 2 io_add (qe_v 3) (qe_rd (qe_v 5))) (qb_cons (ds1 := [0, 0, 1, 0, 0, 0]) (qs_putA 2 io_sub (qe_v 4) (qe_rd (qe_v 5))) qb_nil))) (qb_frz 2 (show QB _ [0, 0, 0, 0, 0, 0] _ _ _ from (qb_cons (ds1 := [0, 0, 0, 0, 0, 0]) (qs_ret (d := 0) rfl (qe_v 2)) qb_nil)))))
theorem sc_is_payment : FnScope N_is_payment ps_is_payment (defScope s_is_payment) := ⟨rfl, rfl, rfl, by decide +kernel, rfl, by decide +kernel, by decide +kernel⟩
theorem ok_is_payment {f : Addr} {fd : FuncData} (T : Tx mg) (Fu : L2.Fun K "is_payment" "is_payment" s_is_payment f fd) (b : Binds K fd ps_is_payment []) (hm : mg "is_payment" = some (.ref f))   : Fn P w K mg base "is_payment" 1 ps_is_payment 0 d_is_payment :=
  fn_mk (ds := [0, 0, 0, 0]) (fb := b_is_payment) Fu sc_is_payment b hm 0 (zds 4) fun cd A outer s H F E hr => by
    have nd := (sc_is_payment).nd
    have hu : (A.deeper (PyProof.Rows.envOfC "is_payment" (defScope s_is_payment) s.heap.objs.size f cd)).units + 64 < cLine := hr.units
    have hu5 : (A.deeper (PyProof.Rows.envOfC "is_payment" (defScope s_is_payment) s.heap.objs.size f cd)).units + 65 < cLine := by have := hr.un; omega
    
    exact (qb_cons (ds1 := [0, 0, 0, 0]) (qs_ret (d := 0) rfl (qe_and (qe_chain o_le o_lt (qe_rd qe_int) (qe_rd (qe_v 1)) (qe_rd (qe_v 0))) (qe_and (qe_chain o_le o_lt (qe_rd qe_int) (qe_rd (qe_v 2)) (qe_rd (qe_v 0))) (qe_and (qe_cmp (o_ne hu) (qe_rd (qe_v 1)) (qe_rd (qe_v 2)) (nomark _)) (qe_one (qe_cmp o_ge (qe_rd (qe_v 3)) (qe_rd qe_int) (nomark _))))))) qb_nil)
theorem sc_settles : FnScope N_settles ps_settles (defScope s_settles) := ⟨rfl, rfl, rfl, by decide +kernel, rfl, by decide +kernel, by decide +kernel⟩
theorem ok_settles {f : Addr} {fd : FuncData} (T : Tx mg) (Fu : L2.Fun K "settles" "settles" s_settles f fd) (b : Binds K fd ps_settles []) (hm : mg "settles" = some (.ref f)) (F_is_payment : Fn P w K mg base "is_payment" 1 ps_is_payment 0 d_is_payment) (F_after_payments : Fn P w K mg base "after_payments" 1 ps_after_payments 0 d_after_payments)  : Fn P w K mg base "settles" 2 ps_settles 0 d_settles :=
  fn_mk (ds := [0, 0, 0, 0, 0, 0]) (fb := b_settles) Fu sc_settles b hm 0 (zds 6) fun cd A outer s H F E hr => by
    have nd := (sc_settles).nd
    have hu : (A.deeper (PyProof.Rows.envOfC "settles" (defScope s_settles) s.heap.objs.size f cd)).units + 64 < cLine := hr.units
    have hu5 : (A.deeper (PyProof.Rows.envOfC "settles" (defScope s_settles) s.heap.objs.size f cd)).units + 65 < cLine := by have := hr.un; omega
    have F_is_payment := F_is_payment.mono (k := 1) (by omega)
    have F_after_payments := F_after_payments.mono (k := 1) (by omega)
    exact (qb_cons (ds1 := [0, 0, 0, 0, 0, 0]) (qs_if (ds' := [0, 0, 0, 0, 0, 0]) (qt_not (qt_tru (qe_rd (qe_callB (c_all rfl) (by rfl) T.z_all b_all (qr_cons (qe_rd (qe_lc (d := 0) (by omega) (own := [("giver", 2), ("taker", 3), ("cents", 4)]) rfl nd (qi_e (qe_v 1)) (blkOk_by (N := N_settles) (sc := defScope s_settles) (by decide +kernel)) (by decide) (fun _ _ _ _ _ => (qg_t rfl (qgs_cons (qg_n 2 (hN := nd)) (qgs_cons (qg_n 3 (hN := nd)) (qgs_cons (qg_n 4 (hN := nd)) qgs_nil))))) (fun _ _ _ _ _ => qts_nil) (fun _ _ _ _ _ => (qe_fun F_is_payment hr takes0 (by rfl) (qa_cons (qe_callB c_len (by rfl) T.z_len b_len (qr_cons (qe_rd (qe_v 0)) qr_nil)) (qa_cons (qe_v 2) (qa_cons (qe_v 3) (qa_cons (qe_v 4) qa_nil)))))))) qr_nil))))) (qb_cons (ds1 := [0, 0, 0, 0, 0, 0]) (qs_ret (d := 0) rfl qe_bl) qb_nil) qb_nil) (qb_cons (ds1 := [0, 0, 0, 0, 0, 0]) (qs_ret (d := 0) rfl (qe_not (qe_callB (c_any rfl) (by rfl) T.z_any b_any (qr_cons (qe_rd (qe_lc (d := 0) (by omega) (own := [("balance", 5)]) rfl nd (qi_e (qe_fun F_after_payments hr px_takes (by rfl) (qa_cons (qe_v 0) (qa_cons (qe_v 1) qa_nil)))) (blkOk_by (N := N_settles) (sc := defScope s_settles) (by decide +kernel)) (by decide) (fun _ _ _ _ _ => (qg_n 5 (hN := nd))) (fun _ _ _ _ _ => qts_nil) (fun _ _ _ _ _ => (qe_cmp (o_ne hu) (qe_rd (qe_v 5)) (qe_rd qe_int) (nomark _))))) qr_nil)))) qb_nil))
theorem sc_plain_payments : FnScope N_plain_payments ps_plain_payments (defScope s_plain_payments) := ⟨rfl, rfl, rfl, by decide +kernel, rfl, by decide +kernel, by decide +kernel⟩
theorem ok_plain_payments {f : Addr} {fd : FuncData} (T : Tx mg) (Fu : L2.Fun K "plain_payments" "plain_payments" s_plain_payments f fd) (b : Binds K fd ps_plain_payments []) (hm : mg "plain_payments" = some (.ref f)) (F_after_payments : Fn P w K mg base "after_payments" 1 ps_after_payments 0 d_after_payments)  : Fn P w K mg base "plain_payments" 2 ps_plain_payments 0 d_plain_payments :=
  fn_mk (ds := [0, 0, 0, 0, 0, 0]) (fb := b_plain_payments) Fu sc_plain_payments b hm 0 (zds 6) fun cd A outer s H F E hr => by
    have nd := (sc_plain_payments).nd
    have hu : (A.deeper (PyProof.Rows.envOfC "plain_payments" (defScope s_plain_payments) s.heap.objs.size f cd)).units + 64 < cLine := hr.units
    have hu5 : (A.deeper (PyProof.Rows.envOfC "plain_payments" (defScope s_plain_payments) s.heap.objs.size f cd)).units + 65 < cLine := by have := hr.un; omega
    have F_after_payments := F_after_payments.mono (k := 1) (by omega)
    exact (qb_cons (ds1 := [0, 0, 0, 0, 0, 0]) (qs_set 1 (qe_callT (c_list (d := 0) (by omega)) (by rfl) T.z_list b_list (qr_cons (qe_rd (qe_v 0)) qr_nil)) nd) (qb_cons (ds1 := [0, 0, 1, 0, 0, 0]) (qs_set 2 (qe_lst (d := 1) (by omega) qa_nil) nd) (qb_cons (ds1 := [0, 0, 1, 0, 0, 0]) (qs_while px_passes (qt_cmp o_gt (qe_rd (qe_callB (c_max rfl) (by rfl) T.z_max b_max (qr_cons (qe_rd (qe_v 1)) qr_nil))) (qe_rd qe_int) (nomark _)) (qb_cons (ds1 := [0, 0, 1, 0, 0, 0]) (qs_set 3 (qe_mth PySem.F.slot_list_index PySem.F.type_list_index (m_index hu5) (qe_rd (qe_v 1)) (qr_cons (qe_rd (qe_callB (c_min rfl) (by rfl) T.z_min b_min (qr_cons (qe_rd (qe_v 1)) qr_nil))) qr_nil)) nd) (qb_cons (ds1 := [0, 0, 1, 0, 0, 0]) (qs_set 4 (qe_mth PySem.F.slot_list_index PySem.F.type_list_index (m_index hu5) (qe_rd (qe_v 1)) (qr_cons (qe_rd (qe_callB (c_max rfl) (by rfl) T.z_max b_max (qr_cons (qe_rd (qe_v 1)) qr_nil))) qr_nil)) nd) (qb_cons (ds1 := [0, 0, 1, 0, 0, 0]) (qs_set 5 (qe_tup (qa_cons (qe_v 3) (qa_cons (qe_v 4) (qa_cons (qe_callB (c_min rfl) (by rfl) T.z_min b_min (qr_cons (qe_rd (qe_neg (qe_ix (qe_rd (qe_v 1)) (qe_rd (qe_v 3))))) (qr_cons (qe_rd (qe_ix (qe_rd (qe_v 1)) (qe_rd (qe_v 4)))) qr_nil))) qa_nil)))) nd) (qb_cons (ds1 := [0, 0, 1, 0, 0, 0]) (qs_app 2 (qe_v 5)) (qb_cons (ds1 := [0, 0, 1, 0, 0, 0]) (qs_set 1 (qe_fun F_after_payments hr px_takes (by rfl) (qa_cons (qe_v 1) (qa_cons (qe_lst (d := 0) (by omega) (qa_cons (qe_v 5) qa_nil)) qa_nil))) nd) qb_nil)))))) (qb_frz 2 (show QB _ [0, 0, 0, 0, 0, 0] _ _ _ from (qb_cons (ds1 := [0, 0, 0, 0, 0, 0]) (qs_ret (d := 0) rfl (qe_v 2)) qb_nil))))))
theorem sc_sum_in : FnScope N_sum_in ps_sum_in (defScope s_sum_in) := ⟨rfl, rfl, rfl, by decide +kernel, rfl, by decide +kernel, by decide +kernel⟩
theorem ok_sum_in {f : Addr} {fd : FuncData} (T : Tx mg) (Fu : L2.Fun K "sum_in" "sum_in" s_sum_in f fd) (b : Binds K fd ps_sum_in []) (hm : mg "sum_in" = some (.ref f)) (F_riders_in : Fn P w K mg base "riders_in" 1 ps_riders_in 0 d_riders_in)  : Fn P w K mg base "sum_in" 2 ps_sum_in 0 d_sum_in :=
  fn_mk (ds := [0, 0, 0]) (fb := b_sum_in) Fu sc_sum_in b hm 0 (zds 3) fun cd A outer s H F E hr => by
    have nd := (sc_sum_in).nd
    have hu : (A.deeper (PyProof.Rows.envOfC "sum_in" (defScope s_sum_in) s.heap.objs.size f cd)).units + 64 < cLine := hr.units
    have hu5 : (A.deeper (PyProof.Rows.envOfC "sum_in" (defScope s_sum_in) s.heap.objs.size f cd)).units + 65 < cLine := by have := hr.un; omega
    have F_riders_in := F_riders_in.mono (k := 1) (by omega)
    exact (qb_cons (ds1 := [0, 0, 0]) (qs_ret (d := 0) rfl (qe_callB (c_sum rfl) (by rfl) T.z_sum b_sum (qr_cons (qe_rd (qe_lc (d := 0) (by omega) (own := [("person", 2)]) rfl nd (qi_e (qe_fun F_riders_in hr px_takes (by rfl) (qa_cons (qe_v 1) qa_nil))) (blkOk_by (N := N_sum_in) (sc := defScope s_sum_in) (by decide +kernel)) (by decide) (fun _ _ _ _ _ => (qg_n 2 (hN := nd))) (fun _ _ _ _ _ => qts_nil) (fun _ _ _ _ _ => (qe_ix (qe_rd (qe_v 0)) (qe_rd (qe_v 2)))))) qr_nil))) qb_nil)
theorem sc_gain_of : FnScope N_gain_of ps_gain_of (defScope s_gain_of) := ⟨rfl, rfl, rfl, by decide +kernel, rfl, by decide +kernel, by decide +kernel⟩
theorem ok_gain_of {f : Addr} {fd : FuncData} (T : Tx mg) (Fu : L2.Fun K "gain_of" "gain_of" s_gain_of f fd) (b : Binds K fd ps_gain_of []) (hm : mg "gain_of" = some (.ref f)) (F_sum_in : Fn P w K mg base "sum_in" 2 ps_sum_in 0 d_sum_in)  : Fn P w K mg base "gain_of" 3 ps_gain_of 0 d_gain_of :=
  fn_mk (ds := [0, 0]) (fb := b_gain_of) Fu sc_gain_of b hm 0 (zds 2) fun cd A outer s H F E hr => by
    have nd := (sc_gain_of).nd
    have hu : (A.deeper (PyProof.Rows.envOfC "gain_of" (defScope s_gain_of) s.heap.objs.size f cd)).units + 64 < cLine := hr.units
    have hu5 : (A.deeper (PyProof.Rows.envOfC "gain_of" (defScope s_gain_of) s.heap.objs.size f cd)).units + 65 < cLine := by have := hr.un; omega
    have F_sum_in := F_sum_in.mono (k := 2) (by omega)
    exact (qb_cons (ds1 := [0, 0]) (qs_ret (d := 0) rfl (qe_callT c_int (by rfl) T.z_int b_int (qr_cons (qe_rd (qe_cmp (o_eq hu) (qe_rd (qe_fun F_sum_in hr px_takes (by rfl) (qa_cons (qe_v 0) (qa_cons (qe_v 1) qa_nil)))) (qe_rd qe_int) (nomark _))) qr_nil))) qb_nil)
theorem sc_smallest_labels : FnScope N_smallest_labels ps_smallest_labels (defScope s_smallest_labels) := ⟨rfl, rfl, rfl, by decide +kernel, rfl, by decide +kernel, by decide +kernel⟩
theorem ok_smallest_labels {f : Addr} {fd : FuncData} (T : Tx mg) (Fu : L2.Fun K "smallest_labels" "smallest_labels" s_smallest_labels f fd) (b : Binds K fd ps_smallest_labels []) (hm : mg "smallest_labels" = some (.ref f)) (F_riders_in : Fn P w K mg base "riders_in" 1 ps_riders_in 0 d_riders_in) (F_alone : Fn P w K mg base "alone" 1 ps_alone 0 d_alone) (F_gain_of : Fn P w K mg base "gain_of" 3 ps_gain_of 0 d_gain_of)  : Fn P w K mg base "smallest_labels" 4 ps_smallest_labels 0 d_smallest_labels :=
  fn_mk (ds := [0, 0, 0, 0, 0]) (fb := b_smallest_labels) Fu sc_smallest_labels b hm 0 (zds 5) fun cd A outer s H F E hr => by
    have nd := (sc_smallest_labels).nd
    have hu : (A.deeper (PyProof.Rows.envOfC "smallest_labels" (defScope s_smallest_labels) s.heap.objs.size f cd)).units + 64 < cLine := hr.units
    have hu5 : (A.deeper (PyProof.Rows.envOfC "smallest_labels" (defScope s_smallest_labels) s.heap.objs.size f cd)).units + 65 < cLine := by have := hr.un; omega
    have F_riders_in := F_riders_in.mono (k := 3) (by omega)
    have F_alone := F_alone.mono (k := 3) (by omega)
    have F_gain_of := F_gain_of.mono (k := 3) (by omega)
    exact (qb_cons (ds1 := [0, 1, 0, 0, 0]) (qs_set 1 (qe_lst (d := 1) (by omega) (qa_cons qe_int qa_nil)) nd) (qb_cons (ds1 := [0, 1, 0, 0, 0]) (qs_for px_passes rfl (qi_range2 (by rfl) T.z_range (qr_cons (qe_rd qe_int) (qr_cons (qe_rd (qe_fun F_alone hr px_takes (by rfl) (qa_cons (qe_callB c_len (by rfl) T.z_len b_len (qr_cons (qe_rd (qe_v 0)) qr_nil)) qa_nil))) qr_nil))) (qg_n 2 (hN := nd)) (qb_cons (ds1 := [0, 1, 0, 0, 0]) (qs_set 3 (qe_callB (c_max rfl) (by rfl) T.z_max b_max (qr_cons (qe_rd (qe_lc (d := 0) (by omega) (own := [("person", 4)]) rfl nd (qi_e (qe_fun F_riders_in hr px_takes (by rfl) (qa_cons (qe_v 2) qa_nil))) (blkOk_by (N := N_smallest_labels) (sc := defScope s_smallest_labels) (by decide +kernel)) (by decide) (fun _ _ _ _ _ => (qg_n 4 (hN := nd))) (fun _ _ _ _ _ => qts_nil) (fun _ _ _ _ _ => (qe_ix (qe_rdv 1) (qe_rd (qe_op o_sub (qe_rd (qe_v 2)) (qe_rd (qe_fun F_alone hr takes0 (by rfl) (qa_cons (qe_v 4) qa_nil))))))))) qr_nil)) nd) (qb_cons (ds1 := [0, 1, 0, 0, 0]) (qs_app 1 (qe_op o_add (qe_rd (qe_v 3)) (qe_rd (qe_fun F_gain_of hr px_takes (by rfl) (qa_cons (qe_v 0) (qa_cons (qe_v 2) qa_nil)))))) qb_nil))) (qb_frz 1 (show QB _ [0, 0, 0, 0, 0] _ _ _ from (qb_cons (ds1 := [0, 0, 0, 0, 0]) (qs_ret (d := 0) rfl (qe_v 1)) qb_nil)))))
theorem sc_dividing_order : FnScope N_dividing_order ps_dividing_order (defScope s_dividing_order) := ⟨rfl, rfl, rfl, by decide +kernel, rfl, by decide +kernel, by decide +kernel⟩
theorem ok_dividing_order {f : Addr} {fd : FuncData} (T : Tx mg) (Fu : L2.Fun K "dividing_order" "dividing_order" s_dividing_order f fd) (b : Binds K fd ps_dividing_order []) (hm : mg "dividing_order" = some (.ref f)) (F_gain_of : Fn P w K mg base "gain_of" 3 ps_gain_of 0 d_gain_of) (F_riders_in : Fn P w K mg base "riders_in" 1 ps_riders_in 0 d_riders_in) (F_alone : Fn P w K mg base "alone" 1 ps_alone 0 d_alone)  : Fn P w K mg base "dividing_order" 4 ps_dividing_order 0 d_dividing_order :=
  fn_mk (ds := [0, 0, 0, 0, 0, 0, 0]) (fb := b_dividing_order) Fu sc_dividing_order b hm 0 (zds 7) fun cd A outer s H F E hr => by
    have nd := (sc_dividing_order).nd
    have hu : (A.deeper (PyProof.Rows.envOfC "dividing_order" (defScope s_dividing_order) s.heap.objs.size f cd)).units + 64 < cLine := hr.units
    have hu5 : (A.deeper (PyProof.Rows.envOfC "dividing_order" (defScope s_dividing_order) s.heap.objs.size f cd)).units + 65 < cLine := by have := hr.un; omega
    have F_gain_of := F_gain_of.mono (k := 3) (by omega)
    have F_riders_in := F_riders_in.mono (k := 3) (by omega)
    have F_alone := F_alone.mono (k := 3) (by omega)
    exact (qb_cons (ds1 := [0, 0, 0, 0, 0, 0, 0]) (qs_set 2 (qe_op o_sub (qe_rd (qe_callB c_len (by rfl) T.z_len b_len (qr_cons (qe_rd (qe_v 1)) qr_nil))) (qe_rd qe_int)) nd) (qb_cons (ds1 := [0, 0, 0, 1, 0, 0, 0]) (qs_set 3 (qe_lst (d := 1) (by omega) qa_nil) nd) (qb_cons (ds1 := [0, 0, 0, 1, 0, 0, 0]) (qs_while px_passes (qt_cmp o_gt (qe_rd (qe_v 2)) (qe_rd qe_int) (nomark _)) (qb_cons (ds1 := [0, 0, 0, 1, 0, 0, 0]) (qs_set 4 (qe_op o_sub (qe_rd (qe_ix (qe_rd (qe_v 1)) (qe_rd (qe_v 2)))) (qe_rd (qe_fun F_gain_of hr px_takes (by rfl) (qa_cons (qe_v 0) (qa_cons (qe_v 2) qa_nil))))) nd) (qb_cons (ds1 := [0, 0, 0, 1, 0, 0, 0]) (qs_set 5 (qe_ix (qe_rd (qe_lc (d := 0) (by omega) (own := [("one", 6)]) rfl nd (qi_e (qe_fun F_riders_in hr px_takes (by rfl) (qa_cons (qe_v 2) qa_nil))) (blkOk_by (N := N_dividing_order) (sc := defScope s_dividing_order) (by decide +kernel)) (by decide) (fun _ _ _ _ _ => (qg_n 6 (hN := nd))) (fun _ _ _ _ _ => (qts_one (qt_cmp (o_eq hu) (qe_rd (qe_ix (qe_rd (qe_v 1)) (qe_rd (qe_op o_sub (qe_rd (qe_v 2)) (qe_rd (qe_fun F_alone hr takes0 (by rfl) (qa_cons (qe_v 6) qa_nil))))))) (qe_rd (qe_v 4)) (nomark _)))) (fun _ _ _ _ _ => (qe_v 6)))) (qe_rd qe_int)) nd) (qb_cons (ds1 := [0, 0, 0, 1, 0, 0, 0]) (qs_app 3 (qe_v 5)) (qb_cons (ds1 := [0, 0, 0, 1, 0, 0, 0]) (qs_aug 2 io_sub (qe_rd (qe_fun F_alone hr px_takes (by rfl) (qa_cons (qe_v 5) qa_nil))) nd) qb_nil))))) (qb_cons (ds1 := [0, 0, 0, 1, 0, 0, 0]) (qs_ret (d := 0) rfl (qe_listRev (d := 0) (by omega) (by rfl) (by rfl) T.z_list (by rfl) T.z_reversed (qe_rdv 3))) qb_nil))))
theorem sc_payments_along : FnScope N_payments_along ps_payments_along (defScope s_payments_along) := ⟨rfl, rfl, rfl, by decide +kernel, rfl, by decide +kernel, by decide +kernel⟩
theorem ok_payments_along {f : Addr} {fd : FuncData} (T : Tx mg) (Fu : L2.Fun K "payments_along" "payments_along" s_payments_along f fd) (b : Binds K fd ps_payments_along []) (hm : mg "payments_along" = some (.ref f))   : Fn P w K mg base "payments_along" 1 ps_payments_along 0 d_payments_along :=
  fn_mk (ds := [0, 0, 0, 0, 0]) (fb := b_payments_along) Fu sc_payments_along b hm 0 (zds 5) fun cd A outer s H F E hr => by
    have nd := (sc_payments_along).nd
    have hu : (A.deeper (PyProof.Rows.envOfC "payments_along" (defScope s_payments_along) s.heap.objs.size f cd)).units + 64 < cLine := hr.units
    have hu5 : (A.deeper (PyProof.Rows.envOfC "payments_along" (defScope s_payments_along) s.heap.objs.size f cd)).units + 65 < cLine := by have := hr.un; omega
    
    exact (qb_cons (ds1 := [0, 0, 1, 0, 0]) (qs_set 2 (qe_lst (d := 1) (by omega) qa_nil) nd) (qb_cons (ds1 := [0, 0, 1, 0, 0]) (qs_set 3 qe_int nd) (qb_cons (ds1 := [0, 0, 1, 0, 0]) (qs_for px_passes rfl (qi_range1 (by rfl) T.z_range (qr_cons (qe_rd (qe_op o_sub (qe_rd (qe_callB c_len (by rfl) T.z_len b_len (qr_cons (qe_rd (qe_v 1)) qr_nil))) (qe_rd qe_int))) qr_nil)) (qg_n 4 (hN := nd)) (qb_cons (ds1 := [0, 0, 1, 0, 0]) (qs_aug 3 io_add (qe_rd (qe_ix (qe_rd (qe_v 0)) (qe_rd (qe_ix (qe_rd (qe_v 1)) (qe_rd (qe_v 4)))))) nd) (qb_cons (ds1 := [0, 0, 1, 0, 0]) (qs_if (ds' := [0, 0, 1, 0, 0]) (qt_cmp o_gt (qe_rd (qe_v 3)) (qe_rd qe_int) (nomark _)) (qb_cons (ds1 := [0, 0, 1, 0, 0]) (qs_app 2 (qe_tup (qa_cons (qe_ix (qe_rd (qe_v 1)) (qe_rd (qe_op o_add (qe_rd (qe_v 4)) (qe_rd qe_int)))) (qa_cons (qe_ix (qe_rd (qe_v 1)) (qe_rd (qe_v 4))) (qa_cons (qe_v 3) qa_nil))))) qb_nil) (qb_cons (ds1 := [0, 0, 1, 0, 0]) (qs_if (ds' := [0, 0, 1, 0, 0]) (qt_cmp o_lt (qe_rd (qe_v 3)) (qe_rd qe_int) (nomark _)) (qb_cons (ds1 := [0, 0, 1, 0, 0]) (qs_app 2 (qe_tup (qa_cons (qe_ix (qe_rd (qe_v 1)) (qe_rd (qe_v 4))) (qa_cons (qe_ix (qe_rd (qe_v 1)) (qe_rd (qe_op o_add (qe_rd (qe_v 4)) (qe_rd qe_int)))) (qa_cons (qe_neg (qe_v 3)) qa_nil))))) qb_nil) qb_nil) qb_nil)) qb_nil))) (qb_frz 2 (show QB _ [0, 0, 0, 0, 0] _ _ _ from (qb_cons (ds1 := [0, 0, 0, 0, 0]) (qs_ret (d := 0) rfl (qe_v 2)) qb_nil))))))
theorem sc_fewest_payments : FnScope N_fewest_payments ps_fewest_payments (defScope s_fewest_payments) := ⟨rfl, rfl, rfl, by decide +kernel, rfl, by decide +kernel, by decide +kernel⟩
theorem ok_fewest_payments {f : Addr} {fd : FuncData} (T : Tx mg) (Fu : L2.Fun K "fewest_payments" "fewest_payments" s_fewest_payments f fd) (b : Binds K fd ps_fewest_payments []) (hm : mg "fewest_payments" = some (.ref f)) (F_smallest_labels : Fn P w K mg base "smallest_labels" 4 ps_smallest_labels 0 d_smallest_labels) (F_payments_along : Fn P w K mg base "payments_along" 1 ps_payments_along 0 d_payments_along) (F_dividing_order : Fn P w K mg base "dividing_order" 4 ps_dividing_order 0 d_dividing_order)  : Fn P w K mg base "fewest_payments" 5 ps_fewest_payments 0 d_fewest_payments :=
  fn_mk (ds := [0, 0]) (fb := b_fewest_payments) Fu sc_fewest_payments b hm 0 (zds 2) fun cd A outer s H F E hr => by
    have nd := (sc_fewest_payments).nd
    have hu : (A.deeper (PyProof.Rows.envOfC "fewest_payments" (defScope s_fewest_payments) s.heap.objs.size f cd)).units + 64 < cLine := hr.units
    have hu5 : (A.deeper (PyProof.Rows.envOfC "fewest_payments" (defScope s_fewest_payments) s.heap.objs.size f cd)).units + 65 < cLine := by have := hr.un; omega
    have F_smallest_labels := F_smallest_labels.mono (k := 4) (by omega)
    have F_payments_along := F_payments_along.mono (k := 4) (by omega)
    have F_dividing_order := F_dividing_order.mono (k := 4) (by omega)
    exact (qb_cons (ds1 := [0, 0]) (qs_set 1 (qe_fun F_smallest_labels hr px_takes (by rfl) (qa_cons (qe_v 0) qa_nil)) nd) (qb_cons (ds1 := [0, 0]) (qs_ret (d := 0) rfl (qe_tup (qa_cons (qe_fun F_payments_along hr px_takes (by rfl) (qa_cons (qe_v 0) (qa_cons (qe_fun F_dividing_order hr px_takes (by rfl) (qa_cons (qe_v 0) (qa_cons (qe_v 1) qa_nil))) qa_nil))) (qa_cons (qe_v 1) qa_nil)))) qb_nil))
theorem sc_labels_fit : FnScope N_labels_fit ps_labels_fit (defScope s_labels_fit) := ⟨rfl, rfl, rfl, by decide +kernel, rfl, by decide +kernel, by decide +kernel⟩
theorem ok_labels_fit {f : Addr} {fd : FuncData} (T : Tx mg) (Fu : L2.Fun K "labels_fit" "labels_fit" s_labels_fit f fd) (b : Binds K fd ps_labels_fit []) (hm : mg "labels_fit" = some (.ref f)) (F_alone : Fn P w K mg base "alone" 1 ps_alone 0 d_alone) (F_gain_of : Fn P w K mg base "gain_of" 3 ps_gain_of 0 d_gain_of) (F_riders_in : Fn P w K mg base "riders_in" 1 ps_riders_in 0 d_riders_in)  : Fn P w K mg base "labels_fit" 4 ps_labels_fit 0 d_labels_fit :=
  fn_mk (ds := [0, 0, 0, 0, 0]) (fb := b_labels_fit) Fu sc_labels_fit b hm 0 (zds 5) fun cd A outer s H F E hr => by
    have nd := (sc_labels_fit).nd
    have hu : (A.deeper (PyProof.Rows.envOfC "labels_fit" (defScope s_labels_fit) s.heap.objs.size f cd)).units + 64 < cLine := hr.units
    have hu5 : (A.deeper (PyProof.Rows.envOfC "labels_fit" (defScope s_labels_fit) s.heap.objs.size f cd)).units + 65 < cLine := by have := hr.un; omega
    have F_alone := F_alone.mono (k := 3) (by omega)
    have F_gain_of := F_gain_of.mono (k := 3) (by omega)
    have F_riders_in := F_riders_in.mono (k := 3) (by omega)
    exact (qb_cons (ds1 := [0, 0, 0, 0, 0]) (qs_if (ds' := [0, 0, 0, 0, 0]) (QW.t (qw_or (qt_cmp (o_ne hu) (qe_rd (qe_callB c_len (by rfl) T.z_len b_len (qr_cons (qe_rd (qe_v 1)) qr_nil))) (qe_rd (qe_fun F_alone hr px_takes (by rfl) (qa_cons (qe_callB c_len (by rfl) T.z_len b_len (qr_cons (qe_rd (qe_v 0)) qr_nil)) qa_nil))) (nomark _)) (qw_or1 (qt_cmp (o_ne hu) (qe_rd (qe_ix (qe_rd (qe_v 1)) (qe_rd qe_int))) (qe_rd qe_int) (nomark _))))) (qb_cons (ds1 := [0, 0, 0, 0, 0]) (qs_ret (d := 0) rfl qe_bl) qb_nil) qb_nil) (qb_cons (ds1 := [0, 0, 0, 0, 0]) (qs_for px_passes rfl (qi_range2 (by rfl) T.z_range (qr_cons (qe_rd qe_int) (qr_cons (qe_rd (qe_callB c_len (by rfl) T.z_len b_len (qr_cons (qe_rd (qe_v 1)) qr_nil))) qr_nil))) (qg_n 2 (hN := nd)) (qb_cons (ds1 := [0, 0, 0, 0, 0]) (qs_set 3 (qe_fun F_gain_of hr px_takes (by rfl) (qa_cons (qe_v 0) (qa_cons (qe_v 2) qa_nil))) nd) (qb_cons (ds1 := [0, 0, 0, 0, 0]) (qs_if (ds' := [0, 0, 0, 0, 0]) (qt_tru (qe_rd (qe_callB (c_any rfl) (by rfl) T.z_any b_any (qr_cons (qe_rd (qe_lc (d := 0) (by omega) (own := [("person", 4)]) rfl nd (qi_e (qe_fun F_riders_in hr px_takes (by rfl) (qa_cons (qe_v 2) qa_nil))) (blkOk_by (N := N_labels_fit) (sc := defScope s_labels_fit) (by decide +kernel)) (by decide) (fun _ _ _ _ _ => (qg_n 4 (hN := nd))) (fun _ _ _ _ _ => qts_nil) (fun _ _ _ _ _ => (qe_cmp o_lt (qe_rd (qe_ix (qe_rd (qe_v 1)) (qe_rd (qe_v 2)))) (qe_rd (qe_op o_add (qe_rd (qe_ix (qe_rd (qe_v 1)) (qe_rd (qe_op o_sub (qe_rd (qe_v 2)) (qe_rd (qe_fun F_alone hr takes0 (by rfl) (qa_cons (qe_v 4) qa_nil))))))) (qe_rd (qe_v 3)))) (nomark _))))) qr_nil)))) (qb_cons (ds1 := [0, 0, 0, 0, 0]) (qs_ret (d := 0) rfl qe_bl) qb_nil) qb_nil) qb_nil))) (qb_cons (ds1 := [0, 0, 0, 0, 0]) (qs_ret (d := 0) rfl qe_bl) qb_nil)))
theorem sc_judge_fewest : FnScope N_judge_fewest ps_judge_fewest (defScope s_judge_fewest) := ⟨rfl, rfl, rfl, by decide +kernel, rfl, by decide +kernel, by decide +kernel⟩
theorem ok_judge_fewest {f : Addr} {fd : FuncData} (T : Tx mg) (Fu : L2.Fun K "judge_fewest" "judge_fewest" s_judge_fewest f fd) (b : Binds K fd ps_judge_fewest []) (hm : mg "judge_fewest" = some (.ref f)) (F_labels_fit : Fn P w K mg base "labels_fit" 4 ps_labels_fit 0 d_labels_fit) (F_settles : Fn P w K mg base "settles" 2 ps_settles 0 d_settles)  : Fn P w K mg base "judge_fewest" 5 ps_judge_fewest 0 d_judge_fewest :=
  fn_mk (ds := [0, 0, 0, 0]) (fb := b_judge_fewest) Fu sc_judge_fewest b hm 0 (zds 4) fun cd A outer s H F E hr => by
    have nd := (sc_judge_fewest).nd
    have hu : (A.deeper (PyProof.Rows.envOfC "judge_fewest" (defScope s_judge_fewest) s.heap.objs.size f cd)).units + 64 < cLine := hr.units
    have hu5 : (A.deeper (PyProof.Rows.envOfC "judge_fewest" (defScope s_judge_fewest) s.heap.objs.size f cd)).units + 65 < cLine := by have := hr.un; omega
    have F_labels_fit := F_labels_fit.mono (k := 4) (by omega)
    have F_settles := F_settles.mono (k := 4) (by omega)
    exact (qb_cons (ds1 := [0, 0, 0, 0]) (qs_if (ds' := [0, 0, 0, 0]) (qt_cmp (o_ne hu) (qe_rd (qe_callB c_len (by rfl) T.z_len b_len (qr_cons (qe_rd (qe_v 1)) qr_nil))) (qe_rd qe_int) (nomark _)) (qb_cons (ds1 := [0, 0, 0, 0]) (qs_ret (d := 0) rfl qe_bl) qb_nil) qb_nil) (qb_cons (ds1 := [0, 0, 0, 0]) (qs_tgt (qe_v 1) (qg_t rfl (qgs_cons (qg_n 2 (hN := nd)) (qgs_cons (qg_n 3 (hN := nd)) qgs_nil)))) (qb_cons (ds1 := [0, 0, 0, 0]) (qs_if (ds' := [0, 0, 0, 0]) (QW.t (qw_or (qt_not (qt_tru (qe_rd (qe_fun F_settles hr px_takes (by rfl) (qa_cons (qe_v 0) (qa_cons (qe_v 2) qa_nil)))))) (qw_or1 (qt_not (qt_tru (qe_rd (qe_fun F_labels_fit hr px_takes (by rfl) (qa_cons (qe_v 0) (qa_cons (qe_v 3) qa_nil))))))))) (qb_cons (ds1 := [0, 0, 0, 0]) (qs_ret (d := 0) rfl qe_bl) qb_nil) qb_nil) (qb_cons (ds1 := [0, 0, 0, 0]) (qs_ret (d := 0) rfl (qe_cmp (o_eq hu) (qe_rd (qe_callB c_len (by rfl) T.z_len b_len (qr_cons (qe_rd (qe_v 2)) qr_nil))) (qe_rd (qe_op o_sub (qe_rd (qe_callB c_len (by rfl) T.z_len b_len (qr_cons (qe_rd (qe_v 0)) qr_nil))) (qe_rd (qe_ix (qe_rd (qe_v 3)) (qe_rd (qe_neg qe_int)))))) (nomark _))) qb_nil))))
theorem sc_law_draws : FnScope N_law_draws ps_law_draws (defScope s_law_draws) := ⟨rfl, rfl, rfl, by decide +kernel, rfl, by decide +kernel, by decide +kernel⟩
theorem ok_law_draws {f : Addr} {fd : FuncData} (T : Tx mg) (Fu : L2.Fun K "_law_draws" "_law_draws" s_law_draws f fd) (b : Binds K fd ps_law_draws []) (hm : mg "_law_draws" = some (.ref f))   : Fn P w K mg base "_law_draws" 1 ps_law_draws 0 d_law_draws :=
  fn_mk (ds := [0, 0, 0, 0, 0, 0, 0, 0]) (fb := b_law_draws) Fu sc_law_draws b hm 0 (zds 8) fun cd A outer s H F E hr => by
    have nd := (sc_law_draws).nd
    have hu : (A.deeper (PyProof.Rows.envOfC "_law_draws" (defScope s_law_draws) s.heap.objs.size f cd)).units + 64 < cLine := hr.units
    have hu5 : (A.deeper (PyProof.Rows.envOfC "_law_draws" (defScope s_law_draws) s.heap.objs.size f cd)).units + 65 < cLine := by have := hr.un; omega
    
    exact (qb_cons (ds1 := [0, 0, 0, 0, 0, 0, 0, 0]) (qs_set 3 qe_int nd) (qb_cons (ds1 := [0, 0, 0, 0, 0, 0, 0, 0]) (qs_if (ds' := [0, 0, 0, 0, 0, 0, 0, 0]) (qt_cmp o_lt (qe_rd (qe_v 1)) (qe_rd (qe_callB c_len (by rfl) T.z_len b_len (qr_cons (qe_rd (qe_v 0)) qr_nil))) (nomark _)) (qb_cons (ds1 := [0, 0, 0, 0, 0, 0, 0, 0]) (qs_set 3 (qe_callT c_int (by rfl) T.z_int b_int (qr_cons (qe_rd (qe_ix (qe_rd (qe_v 0)) (qe_rd (qe_v 1)))) qr_nil)) nd) qb_nil) qb_nil) (qb_cons (ds1 := [0, 0, 0, 0, 0, 0, 0, 0]) (qs_set 4 (qe_cmp o_ge (qe_rd (qe_v 3)) (qe_rd (qe_op o_pow (qe_rd qe_int) (qe_rd qe_int))) (nomark _)) nd) (qb_cons (ds1 := [0, 0, 0, 0, 0, 1, 0, 0]) (qs_set 5 (qe_lst (d := 1) (by omega) qa_nil) nd) (qb_cons (ds1 := [0, 0, 0, 0, 0, 1, 0, 0]) (qs_for px_passes rfl (qi_range1 (by rfl) T.z_range (qr_cons (qe_rd (qe_v 2)) qr_nil)) (qg_n 6 (hN := nd)) (qb_cons (ds1 := [0, 0, 0, 0, 0, 1, 0, 0]) (qs_if (ds' := [0, 0, 0, 0, 0, 1, 0, 0]) (qt_tru (qe_rd (qe_v 4))) (qb_cons (ds1 := [0, 0, 0, 0, 0, 1, 0, 0]) (qs_app 5 (qe_op o_mod (qe_rd (qe_callT c_int (by rfl) T.z_int b_int (qr_cons (qe_rd (qe_v 3)) qr_nil))) (qe_rd qe_int))) (qb_cons (ds1 := [0, 0, 0, 0, 0, 1, 0, 0]) (qs_set 3 (qe_op o_div (qe_rd (qe_v 3)) (qe_rd qe_int)) nd) qb_nil)) (qb_cons (ds1 := [0, 0, 0, 0, 0, 1, 0, 0]) (qs_set 7 (qe_op o_mod (qe_rd (qe_callT c_int (by rfl) T.z_int b_int (qr_cons (qe_rd (qe_op o_add (qe_rd (qe_op o_add (qe_rd (qe_op o_mul (qe_rd (qe_v 3)) (qe_rd qe_int))) (qe_rd (qe_op o_mul (qe_rd (qe_op o_add (qe_rd (qe_v 6)) (qe_rd (qe_op o_mul (qe_rd qe_int) (qe_rd (qe_v 1)))))) (qe_rd qe_int))))) (qe_rd qe_int))) qr_nil))) (qe_rd qe_int)) nd) (qb_cons (ds1 := [0, 0, 0, 0, 0, 1, 0, 0]) (qs_set 7 (qe_op o_mod (qe_rd (qe_callT c_int (by rfl) T.z_int b_int (qr_cons (qe_rd (qe_op o_add (qe_rd (qe_op o_add (qe_rd (qe_op o_mul (qe_rd (qe_v 7)) (qe_rd (qe_v 7)))) (qe_rd (qe_op o_mul (qe_rd (qe_v 7)) (qe_rd qe_int))))) (qe_rd (qe_op o_mul (qe_rd (qe_v 6)) (qe_rd qe_int))))) qr_nil))) (qe_rd qe_int)) nd) (qb_cons (ds1 := [0, 0, 0, 0, 0, 1, 0, 0]) (qs_app 5 (qe_op o_mod (qe_rd (qe_callT c_int (by rfl) T.z_int b_int (qr_cons (qe_rd (qe_op o_div (qe_rd (qe_v 7)) (qe_rd qe_int))) qr_nil))) (qe_rd qe_int))) qb_nil)))) qb_nil)) (qb_frz 5 (show QB _ [0, 0, 0, 0, 0, 0, 0, 0] _ _ _ from (qb_cons (ds1 := [0, 0, 0, 0, 0, 0, 0, 0]) (qs_ret (d := 0) rfl (qe_v 5)) qb_nil))))))))
theorem sc_law_like : FnScope N_law_like ps_law_like (defScope s_law_like) := ⟨rfl, rfl, rfl, by decide +kernel, rfl, by decide +kernel, by decide +kernel⟩
theorem okN_law_like {f : Addr} {fd : FuncData} (T : Tx mg) (Fu : L2.Fun K "_law_like" "_law_like" s_law_like f fd) (b : Binds K fd ps_law_like []) (hm : mg "_law_like" = some (.ref f))   : ∀ n : Nat, Fn P w K mg base "_law_like" (0 + 1 + n) ps_law_like 0 (d_law_likeN n)
  | 0 => fn_stuck Fu sc_law_like b hm 0 0
  | n + 1 => by
    have F_law_like := okN_law_like T Fu b hm   n
    exact fn_mk (ds := [0, 0, 0]) (fb := b_law_like (d_law_likeN n)) Fu sc_law_like b hm 0 (zds 3) fun cd A outer s H F E hr => by
      have nd := (sc_law_like).nd
      have hu : (A.deeper (PyProof.Rows.envOfC "_law_like" (defScope s_law_like) s.heap.objs.size f cd)).units + 64 < cLine := hr.units
      have hu5 : (A.deeper (PyProof.Rows.envOfC "_law_like" (defScope s_law_like) s.heap.objs.size f cd)).units + 65 < cLine := by have := hr.un; omega
      
      exact (qb_cons (ds1 := [0, 0, 0]) (qs_if (ds' := [0, 0, 0]) (qt_tru (qe_rd (qe_isi2 (T := "list") (U := "tuple") (by decide) (by decide) (by rfl) T.z_isinstance rfl (by rfl) T.z_list b_list (by rfl) T.z_tuple b_tuple (qe_rd (qe_v 1))))) (qb_cons (ds1 := [0, 0, 0]) (qs_if (ds' := [0, 0, 0]) (QW.t (qw_or (qt_cmp (o_ne hu) (qe_rd (qe_isi (T := "list") (by decide) (by rfl) T.z_isinstance rfl (by rfl) T.z_list b_list (qe_rd (qe_v 0)))) (qe_rd (qe_isi (T := "list") (by decide) (by rfl) T.z_isinstance rfl (by rfl) T.z_list b_list (qe_rd (qe_v 1)))) (nomark _)) (qw_or1 (qt_cmp (o_ne hu) (qe_rd (qe_isi (T := "tuple") (by decide) (by rfl) T.z_isinstance rfl (by rfl) T.z_tuple b_tuple (qe_rd (qe_v 0)))) (qe_rd (qe_isi (T := "tuple") (by decide) (by rfl) T.z_isinstance rfl (by rfl) T.z_tuple b_tuple (qe_rd (qe_v 1)))) (nomark _))))) (qb_cons (ds1 := [0, 0, 0]) (qs_ret (d := 0) rfl qe_bl) qb_nil) qb_nil) (qb_cons (ds1 := [0, 0, 0]) (qs_if (ds' := [0, 0, 0]) (qt_cmp (o_ne hu) (qe_rd (qe_callB c_len (by rfl) T.z_len b_len (qr_cons (qe_rd (qe_v 0)) qr_nil))) (qe_rd (qe_callB c_len (by rfl) T.z_len b_len (qr_cons (qe_rd (qe_v 1)) qr_nil))) (nomark _)) (qb_cons (ds1 := [0, 0, 0]) (qs_ret (d := 0) rfl qe_bl) qb_nil) qb_nil) (qb_cons (ds1 := [0, 0, 0]) (qs_for px_passes rfl (qi_range1 (by rfl) T.z_range (qr_cons (qe_rd (qe_callB c_len (by rfl) T.z_len b_len (qr_cons (qe_rd (qe_v 1)) qr_nil))) qr_nil)) (qg_n 2 (hN := nd)) (qb_cons (ds1 := [0, 0, 0]) (qs_if (ds' := [0, 0, 0]) (qt_not (qt_tru (qe_rd (qe_fun F_law_like hr px_takes (by rfl) (qa_cons (qe_ix (qe_rd (qe_v 0)) (qe_rd (qe_v 2))) (qa_cons (qe_ix (qe_rd (qe_v 1)) (qe_rd (qe_v 2))) qa_nil)))))) (qb_cons (ds1 := [0, 0, 0]) (qs_ret (d := 0) rfl qe_bl) qb_nil) qb_nil) qb_nil)) (qb_cons (ds1 := [0, 0, 0]) (qs_ret (d := 0) rfl qe_bl) qb_nil)))) qb_nil) (qb_cons (ds1 := [0, 0, 0]) (qs_if (ds' := [0, 0, 0]) (qt_cmp o_is (qe_rd (qe_v 1)) (qe_rd qe_non) (nomark _)) (qb_cons (ds1 := [0, 0, 0]) (qs_ret (d := 0) rfl (qe_cmp o_is (qe_rd (qe_v 0)) (qe_rd qe_non) (nomark _))) qb_nil) qb_nil) (qb_cons (ds1 := [0, 0, 0]) (qs_if (ds' := [0, 0, 0]) (qt_tru (qe_rd (qe_isi (T := "bool") (by decide) (by rfl) T.z_isinstance rfl (by rfl) T.z_bool b_bool (qe_rd (qe_v 1))))) (qb_cons (ds1 := [0, 0, 0]) (qs_ret (d := 0) rfl (qe_and (qe_isi (T := "bool") (by decide) (by rfl) T.z_isinstance rfl (by rfl) T.z_bool b_bool (qe_rd (qe_v 0))) (qe_one (qe_cmp (o_eq hu) (qe_rd (qe_v 0)) (qe_rd (qe_v 1)) (nomark _))))) qb_nil) qb_nil) (qb_cons (ds1 := [0, 0, 0]) (qs_if (ds' := [0, 0, 0]) (qt_tru (qe_rd (qe_isi (T := "int") (by decide) (by rfl) T.z_isinstance rfl (by rfl) T.z_int b_int (qe_rd (qe_v 1))))) (qb_cons (ds1 := [0, 0, 0]) (qs_ret (d := 0) rfl (qe_and (qe_isi (T := "int") (by decide) (by rfl) T.z_isinstance rfl (by rfl) T.z_int b_int (qe_rd (qe_v 0))) (qe_and (qe_not (qe_isi (T := "bool") (by decide) (by rfl) T.z_isinstance rfl (by rfl) T.z_bool b_bool (qe_rd (qe_v 0)))) (qe_one (qe_cmp (o_eq hu) (qe_rd (qe_v 0)) (qe_rd (qe_v 1)) (nomark _)))))) qb_nil) qb_nil) (qb_cons (ds1 := [0, 0, 0]) (qs_ret (d := 0) rfl (qe_and (qe_isi (T := "str") (by decide) (by rfl) T.z_isinstance rfl (by rfl) T.z_str b_str (qe_rd (qe_v 0))) (qe_one (qe_cmp (o_eq hu) (qe_rd (qe_v 0)) (qe_rd (qe_v 1)) (nomark _))))) qb_nil)))))
theorem ok_law_like {f : Addr} {fd : FuncData} (T : Tx mg) (Fu : L2.Fun K "_law_like" "_law_like" s_law_like f fd) (b : Binds K fd ps_law_like []) (hm : mg "_law_like" = some (.ref f))   : Fn P w K mg base "_law_like" 15 ps_law_like 0 d_law_like := okN_law_like T Fu b hm   14
theorem sc_law_is_number : FnScope N_law_is_number ps_law_is_number (defScope s_law_is_number) := ⟨rfl, rfl, rfl, by decide +kernel, rfl, by decide +kernel, by decide +kernel⟩
theorem ok_law_is_number {f : Addr} {fd : FuncData} (T : Tx mg) (Fu : L2.Fun K "_law_is_number" "_law_is_number" s_law_is_number f fd) (b : Binds K fd ps_law_is_number []) (hm : mg "_law_is_number" = some (.ref f))   : Fn P w K mg base "_law_is_number" 1 ps_law_is_number 0 d_law_is_number :=
  fn_mk (ds := [0]) (fb := b_law_is_number) Fu sc_law_is_number b hm 0 (zds 1) fun cd A outer s H F E hr => by
    have nd := (sc_law_is_number).nd
    have hu : (A.deeper (PyProof.Rows.envOfC "_law_is_number" (defScope s_law_is_number) s.heap.objs.size f cd)).units + 64 < cLine := hr.units
    have hu5 : (A.deeper (PyProof.Rows.envOfC "_law_is_number" (defScope s_law_is_number) s.heap.objs.size f cd)).units + 65 < cLine := by have := hr.un; omega
    
    exact (qb_cons (ds1 := [0]) (qs_ret (d := 0) rfl (qe_and (qe_isi (T := "int") (by decide) (by rfl) T.z_isinstance rfl (by rfl) T.z_int b_int (qe_rd (qe_v 0))) (qe_one (qe_not (qe_isi (T := "bool") (by decide) (by rfl) T.z_isinstance rfl (by rfl) T.z_bool b_bool (qe_rd (qe_v 0))))))) qb_nil)
theorem sc_law_numbers : FnScope N_law_numbers ps_law_numbers (defScope s_law_numbers) := ⟨rfl, rfl, rfl, by decide +kernel, rfl, by decide +kernel, by decide +kernel⟩
theorem ok_law_numbers {f : Addr} {fd : FuncData} (T : Tx mg) (Fu : L2.Fun K "_law_numbers" "_law_numbers" s_law_numbers f fd) (b : Binds K fd ps_law_numbers []) (hm : mg "_law_numbers" = some (.ref f)) (F_law_is_number : Fn P w K mg base "_law_is_number" 1 ps_law_is_number 0 d_law_is_number)  : Fn P w K mg base "_law_numbers" 2 ps_law_numbers 0 d_law_numbers :=
  fn_mk (ds := [0, 0]) (fb := b_law_numbers) Fu sc_law_numbers b hm 0 (zds 2) fun cd A outer s H F E hr => by
    have nd := (sc_law_numbers).nd
    have hu : (A.deeper (PyProof.Rows.envOfC "_law_numbers" (defScope s_law_numbers) s.heap.objs.size f cd)).units + 64 < cLine := hr.units
    have hu5 : (A.deeper (PyProof.Rows.envOfC "_law_numbers" (defScope s_law_numbers) s.heap.objs.size f cd)).units + 65 < cLine := by have := hr.un; omega
    have F_law_is_number := F_law_is_number.mono (k := 1) (by omega)
    exact (qb_cons (ds1 := [0, 0]) (qs_if (ds' := [0, 0]) (qt_not (qt_tru (qe_rd (qe_isi (T := "list") (by decide) (by rfl) T.z_isinstance rfl (by rfl) T.z_list b_list (qe_rd (qe_v 0)))))) (qb_cons (ds1 := [0, 0]) (qs_ret (d := 0) rfl qe_bl) qb_nil) qb_nil) (qb_cons (ds1 := [0, 0]) (qs_ret (d := 0) rfl (qe_cmp (o_eq hu) (qe_rd (qe_callB c_len (by rfl) T.z_len b_len (qr_cons (qe_rd (qe_lc (d := 0) (by omega) (own := [("one", 1)]) rfl nd (qi_e (qe_v 0)) (blkOk_by (N := N_law_numbers) (sc := defScope s_law_numbers) (by decide +kernel)) (by decide) (fun _ _ _ _ _ => (qg_n 1 (hN := nd))) (fun _ _ _ _ _ => (qts_one (qt_not (qt_tru (qe_rd (qe_fun F_law_is_number hr takes0 (by rfl) (qa_cons (qe_v 1) qa_nil))))))) (fun _ _ _ _ _ => (qe_v 1)))) qr_nil))) (qe_rd qe_int) (nomark _))) qb_nil))
theorem sc_law_power : FnScope N_law_power ps_law_power (defScope s_law_power) := ⟨rfl, rfl, rfl, by decide +kernel, rfl, by decide +kernel, by decide +kernel⟩
theorem ok_law_power {f : Addr} {fd : FuncData} (T : Tx mg) (Fu : L2.Fun K "_law_power" "_law_power" s_law_power f fd) (b : Binds K fd ps_law_power []) (hm : mg "_law_power" = some (.ref f))   : Fn P w K mg base "_law_power" 1 ps_law_power 0 d_law_power :=
  fn_mk (ds := [0, 0, 0]) (fb := b_law_power) Fu sc_law_power b hm 0 (zds 3) fun cd A outer s H F E hr => by
    have nd := (sc_law_power).nd
    have hu : (A.deeper (PyProof.Rows.envOfC "_law_power" (defScope s_law_power) s.heap.objs.size f cd)).units + 64 < cLine := hr.units
    have hu5 : (A.deeper (PyProof.Rows.envOfC "_law_power" (defScope s_law_power) s.heap.objs.size f cd)).units + 65 < cLine := by have := hr.un; omega
    
    exact (qb_cons (ds1 := [0, 0, 0]) (qs_set 1 qe_int nd) (qb_cons (ds1 := [0, 0, 0]) (qs_for px_passes rfl (qi_range1 (by rfl) T.z_range (qr_cons (qe_rd (qe_v 0)) qr_nil)) (qg_n 2 (hN := nd)) (qb_cons (ds1 := [0, 0, 0]) (qs_set 1 (qe_op o_mul (qe_rd qe_int) (qe_rd (qe_v 1))) nd) qb_nil)) (qb_cons (ds1 := [0, 0, 0]) (qs_ret (d := 0) rfl (qe_v 1)) qb_nil)))
theorem sc_law_members : FnScope N_law_members ps_law_members (defScope s_law_members) := ⟨rfl, rfl, rfl, by decide +kernel, rfl, by decide +kernel, by decide +kernel⟩
theorem ok_law_members {f : Addr} {fd : FuncData} (T : Tx mg) (Fu : L2.Fun K "_law_members" "_law_members" s_law_members f fd) (b : Binds K fd ps_law_members []) (hm : mg "_law_members" = some (.ref f)) (F_law_power : Fn P w K mg base "_law_power" 1 ps_law_power 0 d_law_power)  : Fn P w K mg base "_law_members" 2 ps_law_members 0 d_law_members :=
  fn_mk (ds := [0, 0, 0]) (fb := b_law_members) Fu sc_law_members b hm 0 (zds 3) fun cd A outer s H F E hr => by
    have nd := (sc_law_members).nd
    have hu : (A.deeper (PyProof.Rows.envOfC "_law_members" (defScope s_law_members) s.heap.objs.size f cd)).units + 64 < cLine := hr.units
    have hu5 : (A.deeper (PyProof.Rows.envOfC "_law_members" (defScope s_law_members) s.heap.objs.size f cd)).units + 65 < cLine := by have := hr.un; omega
    have F_law_power := F_law_power.mono (k := 1) (by omega)
    exact (qb_cons (ds1 := [0, 0, 0]) (qs_ret (d := 0) rfl (qe_lc (d := 0) (by omega) (own := [("k", 2)]) rfl nd (qi_range1 (by rfl) T.z_range (qr_cons (qe_rd (qe_v 1)) qr_nil)) (blkOk_by (N := N_law_members) (sc := defScope s_law_members) (by decide +kernel)) (by decide) (fun _ _ _ _ _ => (qg_n 2 (hN := nd))) (fun _ _ _ _ _ => (qts_one (qt_cmp (o_eq hu) (qe_rd (qe_op o_mod (qe_rd (qe_callT c_int (by rfl) T.z_int b_int (qr_cons (qe_rd (qe_op o_div (qe_rd (qe_v 0)) (qe_rd (qe_fun F_law_power hr takes0 (by rfl) (qa_cons (qe_v 2) qa_nil))))) qr_nil))) (qe_rd qe_int))) (qe_rd qe_int) (nomark _)))) (fun _ _ _ _ _ => (qe_v 2)))) qb_nil)
theorem sc_law_sum_in : FnScope N_law_sum_in ps_law_sum_in (defScope s_law_sum_in) := ⟨rfl, rfl, rfl, by decide +kernel, rfl, by decide +kernel, by decide +kernel⟩
theorem ok_law_sum_in {f : Addr} {fd : FuncData} (T : Tx mg) (Fu : L2.Fun K "_law_sum_in" "_law_sum_in" s_law_sum_in f fd) (b : Binds K fd ps_law_sum_in []) (hm : mg "_law_sum_in" = some (.ref f)) (F_law_members : Fn P w K mg base "_law_members" 2 ps_law_members 0 d_law_members)  : Fn P w K mg base "_law_sum_in" 3 ps_law_sum_in 0 d_law_sum_in :=
  fn_mk (ds := [0, 0, 0]) (fb := b_law_sum_in) Fu sc_law_sum_in b hm 0 (zds 3) fun cd A outer s H F E hr => by
    have nd := (sc_law_sum_in).nd
    have hu : (A.deeper (PyProof.Rows.envOfC "_law_sum_in" (defScope s_law_sum_in) s.heap.objs.size f cd)).units + 64 < cLine := hr.units
    have hu5 : (A.deeper (PyProof.Rows.envOfC "_law_sum_in" (defScope s_law_sum_in) s.heap.objs.size f cd)).units + 65 < cLine := by have := hr.un; omega
    have F_law_members := F_law_members.mono (k := 2) (by omega)
    exact (qb_cons (ds1 := [0, 0, 0]) (qs_ret (d := 0) rfl (qe_callB (c_sum rfl) (by rfl) T.z_sum b_sum (qr_cons (qe_rd (qe_lc (d := 0) (by omega) (own := [("k", 2)]) rfl nd (qi_e (qe_fun F_law_members hr px_takes (by rfl) (qa_cons (qe_v 1) (qa_cons (qe_callB c_len (by rfl) T.z_len b_len (qr_cons (qe_rd (qe_v 0)) qr_nil)) qa_nil)))) (blkOk_by (N := N_law_sum_in) (sc := defScope s_law_sum_in) (by decide +kernel)) (by decide) (fun _ _ _ _ _ => (qg_n 2 (hN := nd))) (fun _ _ _ _ _ => qts_nil) (fun _ _ _ _ _ => (qe_ix (qe_rd (qe_v 0)) (qe_rd (qe_v 2)))))) qr_nil))) qb_nil)
theorem sc_law_after : FnScope N_law_after ps_law_after (defScope s_law_after) := ⟨rfl, rfl, rfl, by decide +kernel, rfl, by decide +kernel, by decide +kernel⟩
theorem ok_law_after {f : Addr} {fd : FuncData} (T : Tx mg) (Fu : L2.Fun K "_law_after" "_law_after" s_law_after f fd) (b : Binds K fd ps_law_after []) (hm : mg "_law_after" = some (.ref f))   : Fn P w K mg base "_law_after" 1 ps_law_after 0 d_law_after :=
  fn_mk (ds := [0, 0, 0, 0, 0, 0]) (fb := b_law_after) Fu sc_law_after b hm 0 (zds 6) fun cd A outer s H F E hr => by
    have nd := (sc_law_after).nd
    have hu : (A.deeper (PyProof.Rows.envOfC "_law_after" (defScope s_law_after) s.heap.objs.size f cd)).units + 64 < cLine := hr.units
    have hu5 : (A.deeper (PyProof.Rows.envOfC "_law_after" (defScope s_law_after) s.heap.objs.size f cd)).units + 65 < cLine := by have := hr.un; omega
    
    exact (qb_cons (ds1 := [0, 0, 1, 0, 0, 0]) (qs_set 2 (qe_callT (c_list (d := 1) (by omega)) (by rfl) T.z_list b_list (qr_cons (qe_rd (qe_v 0)) qr_nil)) nd) (qb_cons (ds1 := [0, 0, 1, 0, 0, 0]) (qs_for px_passes rfl (qi_e (qe_v 1)) (qg_t rfl (qgs_cons (qg_n 3 (hN := nd)) (qgs_cons (qg_n 4 (hN := nd)) (qgs_cons (qg_n 5 (hN := nd)) qgs_nil)))) (qb_cons (ds1 := [0, 0, 1, 0, 0, 0]) (qs_put 2 (qe_op o_add (qe_rd (qe_ix (qe_rdv 2) (qe_rd (qe_v 3)))) (qe_rd (qe_v 5))) (qe_v 3)) (qb_cons (ds1 := [0, 0, 1, 0, 0, 0]) (qs_put 2 (qe_op o_sub (qe_rd (qe_ix (qe_rdv 2) (qe_rd (qe_v 4)))) (qe_rd (qe_v 5))) (qe_v 4)) qb_nil))) (qb_frz 2 (show QB _ [0, 0, 0, 0, 0, 0] _ _ _ from (qb_cons (ds1 := [0, 0, 0, 0, 0, 0]) (qs_ret (d := 0) rfl (qe_v 2)) qb_nil)))))
theorem sc_law_settled : FnScope N_law_settled ps_law_settled (defScope s_law_settled) := ⟨rfl, rfl, rfl, by decide +kernel, rfl, by decide +kernel, by decide +kernel⟩
theorem ok_law_settled {f : Addr} {fd : FuncData} (T : Tx mg) (Fu : L2.Fun K "_law_settled" "_law_settled" s_law_settled f fd) (b : Binds K fd ps_law_settled []) (hm : mg "_law_settled" = some (.ref f)) (F_law_after : Fn P w K mg base "_law_after" 1 ps_law_after 0 d_law_after)  : Fn P w K mg base "_law_settled" 2 ps_law_settled 0 d_law_settled :=
  fn_mk (ds := [0, 0, 0, 0, 0, 0]) (fb := b_law_settled) Fu sc_law_settled b hm 0 (zds 6) fun cd A outer s H F E hr => by
    have nd := (sc_law_settled).nd
    have hu : (A.deeper (PyProof.Rows.envOfC "_law_settled" (defScope s_law_settled) s.heap.objs.size f cd)).units + 64 < cLine := hr.units
    have hu5 : (A.deeper (PyProof.Rows.envOfC "_law_settled" (defScope s_law_settled) s.heap.objs.size f cd)).units + 65 < cLine := by have := hr.un; omega
    have F_law_after := F_law_after.mono (k := 1) (by omega)
    exact (qb_cons (ds1 := [0, 0, 0, 0, 0, 0]) (qs_for px_passes rfl (qi_e (qe_v 1)) (qg_t rfl (qgs_cons (qg_n 2 (hN := nd)) (qgs_cons (qg_n 3 (hN := nd)) (qgs_cons (qg_n 4 (hN := nd)) qgs_nil)))) (qb_cons (ds1 := [0, 0, 0, 0, 0, 0]) (qs_if (ds' := [0, 0, 0, 0, 0, 0]) (QW.t (qw_or (qt_cmp o_lt (qe_rd (qe_callB (c_min rfl) (by rfl) T.z_min b_min (qr_cons (qe_rd (qe_v 2)) (qr_cons (qe_rd (qe_v 3)) qr_nil)))) (qe_rd qe_int) (nomark _)) (qw_or (qt_cmp o_ge (qe_rd (qe_callB (c_max rfl) (by rfl) T.z_max b_max (qr_cons (qe_rd (qe_v 2)) (qr_cons (qe_rd (qe_v 3)) qr_nil)))) (qe_rd (qe_callB c_len (by rfl) T.z_len b_len (qr_cons (qe_rd (qe_v 0)) qr_nil))) (nomark _)) (qw_or (qt_cmp (o_eq hu) (qe_rd (qe_v 2)) (qe_rd (qe_v 3)) (nomark _)) (qw_or1 (qt_cmp o_lt (qe_rd (qe_v 4)) (qe_rd qe_int) (nomark _))))))) (qb_cons (ds1 := [0, 0, 0, 0, 0, 0]) (qs_ret (d := 0) rfl qe_bl) qb_nil) qb_nil) qb_nil)) (qb_cons (ds1 := [0, 0, 0, 0, 0, 0]) (qs_ret (d := 0) rfl (qe_cmp (o_eq hu) (qe_rd (qe_callB c_len (by rfl) T.z_len b_len (qr_cons (qe_rd (qe_lc (d := 0) (by omega) (own := [("one", 5)]) rfl nd (qi_e (qe_fun F_law_after hr px_takes (by rfl) (qa_cons (qe_v 0) (qa_cons (qe_v 1) qa_nil)))) (blkOk_by (N := N_law_settled) (sc := defScope s_law_settled) (by decide +kernel)) (by decide) (fun _ _ _ _ _ => (qg_n 5 (hN := nd))) (fun _ _ _ _ _ => (qts_one (qt_cmp (o_ne hu) (qe_rd (qe_v 5)) (qe_rd qe_int) (nomark _)))) (fun _ _ _ _ _ => (qe_v 5)))) qr_nil))) (qe_rd qe_int) (nomark _))) qb_nil))
theorem sc_law_fewest_balances : FnScope N_law_fewest_balances ps_law_fewest_balances (defScope s_law_fewest_balances) := ⟨rfl, rfl, rfl, by decide +kernel, rfl, by decide +kernel, by decide +kernel⟩
theorem ok_law_fewest_balances {f : Addr} {fd : FuncData} (T : Tx mg) (Fu : L2.Fun K "_law_fewest_balances" "_law_fewest_balances" s_law_fewest_balances f fd) (b : Binds K fd ps_law_fewest_balances []) (hm : mg "_law_fewest_balances" = some (.ref f)) (F_law_draws : Fn P w K mg base "_law_draws" 1 ps_law_draws 0 d_law_draws)  : Fn P w K mg base "_law_fewest_balances" 2 ps_law_fewest_balances 0 d_law_fewest_balances :=
  fn_mk (ds := [0, 0, 0, 0, 0, 0, 0, 0]) (fb := b_law_fewest_balances) Fu sc_law_fewest_balances b hm 0 (zds 8) fun cd A outer s H F E hr => by
    have nd := (sc_law_fewest_balances).nd
    have hu : (A.deeper (PyProof.Rows.envOfC "_law_fewest_balances" (defScope s_law_fewest_balances) s.heap.objs.size f cd)).units + 64 < cLine := hr.units
    have hu5 : (A.deeper (PyProof.Rows.envOfC "_law_fewest_balances" (defScope s_law_fewest_balances) s.heap.objs.size f cd)).units + 65 < cLine := by have := hr.un; omega
    have F_law_draws := F_law_draws.mono (k := 1) (by omega)
    exact (qb_cons (ds1 := [0, 0, 0, 0, 0, 0, 0, 0]) (qs_set 2 (qe_fun F_law_draws hr px_takes (by rfl) (qa_cons (qe_v 0) (qa_cons qe_int (qa_cons qe_int qa_nil)))) nd) (qb_cons (ds1 := [0, 0, 0, 0, 0, 0, 0, 0]) (qs_set 3 (qe_op o_add (qe_rd qe_int) (qe_rd (qe_op o_mod (qe_rd (qe_ix (qe_rd (qe_v 2)) (qe_rd qe_int))) (qe_rd (qe_v 1))))) nd) (qb_cons (ds1 := [0, 0, 0, 0, 0, 0, 0, 0]) (qs_set 4 (qe_ix (qe_rd (qe_lst (d := 0) (by omega) (qa_cons qe_int (qa_cons qe_int (qa_cons qe_int (qa_cons qe_int qa_nil)))))) (qe_rd (qe_op o_mod (qe_rd (qe_ix (qe_rd (qe_v 2)) (qe_rd qe_int))) (qe_rd qe_int)))) nd) (qb_cons (ds1 := [0, 0, 0, 0, 0, 1, 0, 0]) (qs_setLc 5 (d := 1) (by omega) (own := [("pick", 6)]) rfl nd (qi_e (qe_sl (d := 0) (by omega) (qe_rd (qe_v 2)) (qo_some qe_int) (qo_some (qe_op o_add (qe_rd qe_int) (qe_rd (qe_v 3)))))) (blkOk_by (N := N_law_fewest_balances) (sc := defScope s_law_fewest_balances) (by decide +kernel)) (by decide) (fun _ _ _ _ _ => (qg_n 6 (hN := nd))) (fun _ _ _ _ _ => qts_nil) (fun _ _ _ _ _ => (qe_op o_mul (qe_rd (qe_op o_sub (qe_rd (qe_op o_mod (qe_rd (qe_v 6)) (qe_rd (qe_v 4)))) (qe_rd (qe_op o_div (qe_rd (qe_v 4)) (qe_rd qe_int))))) (qe_rd (qe_ix (qe_rd (qe_lst (d := 0) (by omega) (qa_cons qe_int (qa_cons qe_int (qa_cons (qe_op o_pow (qe_rd qe_int) (qe_rd qe_int)) qa_nil))))) (qe_rd (qe_op o_mod (qe_rd (qe_ix (qe_rd (qe_v 2)) (qe_rd qe_int))) (qe_rd qe_int))))))) (sw_true rfl rfl rfl (by decide +kernel))) (qb_cons (ds1 := [0, 0, 0, 0, 0, 1, 0, 0]) (qs_if (ds' := [0, 0, 0, 0, 0, 1, 0, 0]) (qt_cmp (o_eq hu) (qe_rd (qe_op o_mod (qe_rd (qe_ix (qe_rd (qe_v 2)) (qe_rd qe_int))) (qe_rd qe_int))) (qe_rd qe_int) (nomark _)) (qb_cons (ds1 := [0, 0, 0, 0, 0, 1, 0, 0]) (qs_for px_passes rfl (qi_range3 (by rfl) T.z_range (qr_cons (qe_rd qe_int) (qr_cons (qe_rd (qe_v 3)) (qr_cons (qe_rd qe_int) qr_nil)))) (qg_n 7 (hN := nd)) (qb_cons (ds1 := [0, 0, 0, 0, 0, 1, 0, 0]) (qs_put 5 (qe_op o_sub (qe_rd qe_int) (qe_rd (qe_ix (qe_rdv 5) (qe_rd (qe_op o_sub (qe_rd (qe_v 7)) (qe_rd qe_int)))))) (qe_v 7)) qb_nil)) qb_nil) qb_nil) (qb_cons (ds1 := [0, 0, 0, 0, 0, 1, 0, 0]) (qs_ret (d := 0) rfl (qe_op o_add (qe_rd (qe_sl (d := 0) (by omega) (qe_rdv 5) (qo_some qe_int) (qo_some (qe_op o_sub (qe_rd (qe_v 3)) (qe_rd qe_int))))) (qe_rd (qe_lst (d := 0) (by omega) (qa_cons (qe_op o_sub (qe_rd qe_int) (qe_rd (qe_callB (c_sum rfl) (by rfl) T.z_sum b_sum (qr_cons (qe_rd (qe_sl (d := 0) (by omega) (qe_rdv 5) (qo_some qe_int) (qo_some (qe_op o_sub (qe_rd (qe_v 3)) (qe_rd qe_int))))) qr_nil)))) qa_nil))))) qb_nil))))))
theorem sc_law_most_parts : FnScope N_law_most_parts ps_law_most_parts (defScope s_law_most_parts) := ⟨rfl, rfl, rfl, by decide +kernel, rfl, by decide +kernel, by decide +kernel⟩
theorem ok_law_most_parts {f : Addr} {fd : FuncData} (T : Tx mg) (Fu : L2.Fun K "_law_most_parts" "_law_most_parts" s_law_most_parts f fd) (b : Binds K fd ps_law_most_parts []) (hm : mg "_law_most_parts" = some (.ref f)) (F_law_power : Fn P w K mg base "_law_power" 1 ps_law_power 0 d_law_power) (F_law_sum_in : Fn P w K mg base "_law_sum_in" 3 ps_law_sum_in 0 d_law_sum_in) (F_law_members : Fn P w K mg base "_law_members" 2 ps_law_members 0 d_law_members)  : Fn P w K mg base "_law_most_parts" 4 ps_law_most_parts 0 d_law_most_parts :=
  fn_mk (ds := [0, 0, 0, 0, 0, 0, 0]) (fb := b_law_most_parts) Fu sc_law_most_parts b hm 0 (zds 7) fun cd A outer s H F E hr => by
    have nd := (sc_law_most_parts).nd
    have hu : (A.deeper (PyProof.Rows.envOfC "_law_most_parts" (defScope s_law_most_parts) s.heap.objs.size f cd)).units + 64 < cLine := hr.units
    have hu5 : (A.deeper (PyProof.Rows.envOfC "_law_most_parts" (defScope s_law_most_parts) s.heap.objs.size f cd)).units + 65 < cLine := by have := hr.un; omega
    have F_law_power := F_law_power.mono (k := 3) (by omega)
    have F_law_sum_in := F_law_sum_in.mono (k := 3) (by omega)
    have F_law_members := F_law_members.mono (k := 3) (by omega)
    exact (qb_cons (ds1 := [0, 0, 0, 0, 0, 0, 0]) (qs_setLc 1 (d := 0) (by omega) (own := [("some", 2)]) rfl nd (qi_range2 (by rfl) T.z_range (qr_cons (qe_rd qe_int) (qr_cons (qe_rd (qe_fun F_law_power hr px_takes (by rfl) (qa_cons (qe_callB c_len (by rfl) T.z_len b_len (qr_cons (qe_rd (qe_v 0)) qr_nil)) qa_nil))) qr_nil))) (blkOk_by (N := N_law_most_parts) (sc := defScope s_law_most_parts) (by decide +kernel)) (by decide) (fun _ _ _ _ _ => (qg_n 2 (hN := nd))) (fun _ _ _ _ _ => (qts_one (qt_cmp (o_eq hu) (qe_rd (qe_fun F_law_sum_in hr takes0 (by rfl) (qa_cons (qe_v 0) (qa_cons (qe_v 2) qa_nil)))) (qe_rd qe_int) (nomark _)))) (fun _ _ _ _ _ => (qe_v 2)) (sw_true rfl rfl rfl (by decide +kernel))) (qb_cons (ds1 := [0, 0, 0, 1, 0, 0, 0]) (qs_set 3 (qe_lst (d := 1) (by omega) (qa_cons (qe_tup (qa_cons qe_int (qa_cons (qe_lst (d := 0) (by omega) qa_nil) qa_nil))) qa_nil)) nd) (qb_cons (ds1 := [0, 0, 0, 1, 0, 0, 0]) (qs_for px_passes rfl (qi_range2 (by rfl) T.z_range (qr_cons (qe_rd qe_int) (qr_cons (qe_rd (qe_fun F_law_power hr px_takes (by rfl) (qa_cons (qe_callB c_len (by rfl) T.z_len b_len (qr_cons (qe_rd (qe_v 0)) qr_nil)) qa_nil))) qr_nil))) (qg_n 2 (hN := nd)) (qb_cons (ds1 := [0, 0, 0, 1, 0, 0, 0]) (qs_set 4 (qe_fun F_law_power hr px_takes (by rfl) (qa_cons (qe_ix (qe_rd (qe_fun F_law_members hr px_takes (by rfl) (qa_cons (qe_v 2) (qa_cons (qe_callB c_len (by rfl) T.z_len b_len (qr_cons (qe_rd (qe_v 0)) qr_nil)) qa_nil)))) (qe_rd qe_int)) qa_nil)) nd) (qb_cons (ds1 := [0, 0, 0, 1, 0, 0, 0]) (qs_set 5 (qe_ix (qe_rdv 3) (qe_rd (qe_op o_sub (qe_rd (qe_v 2)) (qe_rd (qe_v 4))))) nd) (qb_cons (ds1 := [0, 0, 0, 1, 0, 0, 0]) (qs_for px_passes rfl (qi_e (qe_v 1)) (qg_n 6 (hN := nd)) (qb_cons (ds1 := [0, 0, 0, 1, 0, 0, 0]) (qs_if (ds' := [0, 0, 0, 1, 0, 0, 0]) (QW.t (qw_and (qt_cmp (o_eq hu) (qe_rd (qe_op o_and (qe_rd (qe_v 6)) (qe_rd (qe_v 2)))) (qe_rd (qe_v 6)) (nomark _)) (qw_and (qt_cmp (o_eq hu) (qe_rd (qe_op o_and (qe_rd (qe_v 6)) (qe_rd (qe_v 4)))) (qe_rd (qe_v 4)) (nomark _)) (qw_and1 (qt_cmp o_gt (qe_rd (qe_op o_add (qe_rd (qe_ix (qe_rd (qe_ix (qe_rdv 3) (qe_rd (qe_op o_sub (qe_rd (qe_v 2)) (qe_rd (qe_v 6)))))) (qe_rd qe_int))) (qe_rd qe_int))) (qe_rd (qe_ix (qe_rd (qe_v 5)) (qe_rd qe_int))) (nomark _)))))) (qb_cons (ds1 := [0, 0, 0, 1, 0, 0, 0]) (qs_set 5 (qe_tup (qa_cons (qe_op o_add (qe_rd (qe_ix (qe_rd (qe_ix (qe_rdv 3) (qe_rd (qe_op o_sub (qe_rd (qe_v 2)) (qe_rd (qe_v 6)))))) (qe_rd qe_int))) (qe_rd qe_int)) (qa_cons (qe_op o_add (qe_rd (qe_ix (qe_rd (qe_ix (qe_rdv 3) (qe_rd (qe_op o_sub (qe_rd (qe_v 2)) (qe_rd (qe_v 6)))))) (qe_rd qe_int))) (qe_rd (qe_lst (d := 0) (by omega) (qa_cons (qe_v 6) qa_nil)))) qa_nil))) nd) qb_nil) qb_nil) qb_nil)) (qb_cons (ds1 := [0, 0, 0, 1, 0, 0, 0]) (qs_app 3 (qe_v 5)) qb_nil))))) (qb_frz 3 (show QB _ [0, 0, 0, 0, 0, 0, 0] _ _ _ from (qb_cons (ds1 := [0, 0, 0, 0, 0, 0, 0]) (qs_ret (d := 0) rfl (qe_v 3)) qb_nil))))))
theorem sc_law : FnScope N_law ps_law (defScope s_law) := ⟨rfl, rfl, rfl, by decide +kernel, rfl, by decide +kernel, by decide +kernel⟩
theorem okf_law {f : Addr} {fd : FuncData} (T : Tx mg) (Fu : L2.Fun K "law" "law" s_law f fd) (F_law_fewest_balances : Fn P w K mg base "_law_fewest_balances" 2 ps_law_fewest_balances 0 d_law_fewest_balances) (F_fewest_payments : Fn P w K mg base "fewest_payments" 5 ps_fewest_payments 0 d_fewest_payments) (F_law_like : Fn P w K mg base "_law_like" 15 ps_law_like 0 d_law_like) (F_law_most_parts : Fn P w K mg base "_law_most_parts" 4 ps_law_most_parts 0 d_law_most_parts) (F_law_numbers : Fn P w K mg base "_law_numbers" 2 ps_law_numbers 0 d_law_numbers) (F_settles : Fn P w K mg base "settles" 2 ps_settles 0 d_settles) (F_law_settled : Fn P w K mg base "_law_settled" 2 ps_law_settled 0 d_law_settled) (F_judge_fewest : Fn P w K mg base "judge_fewest" 5 ps_judge_fewest 0 d_judge_fewest) (F_plain_payments : Fn P w K mg base "plain_payments" 2 ps_plain_payments 0 d_plain_payments)  : FnOk P w K mg base (L2.CX P w) 16 f fd ps_law (spD K mg 1 0 d_law) :=
  fnok_mk (ds := [0, 0, 0, 0, 0, 0, 0, 0, 0, 0]) (fb := b_law) Fu sc_law 0 (zds 10) fun cd A outer s H F E hr => by
    have nd := (sc_law).nd
    have hu : (A.deeper (PyProof.Rows.envOfC "law" (defScope s_law) s.heap.objs.size f cd)).units + 64 < cLine := hr.units
    have hu5 : (A.deeper (PyProof.Rows.envOfC "law" (defScope s_law) s.heap.objs.size f cd)).units + 65 < cLine := by have := hr.un; omega
    have F_law_fewest_balances := F_law_fewest_balances.mono (k := 15) (by omega)
    have F_fewest_payments := F_fewest_payments.mono (k := 15) (by omega)
    have F_law_like := F_law_like.mono (k := 15) (by omega)
    have F_law_most_parts := F_law_most_parts.mono (k := 15) (by omega)
    have F_law_numbers := F_law_numbers.mono (k := 15) (by omega)
    have F_settles := F_settles.mono (k := 15) (by omega)
    have F_law_settled := F_law_settled.mono (k := 15) (by omega)
    have F_judge_fewest := F_judge_fewest.mono (k := 15) (by omega)
    have F_plain_payments := F_plain_payments.mono (k := 15) (by omega)
    exact (qb_cons (ds1 := [0, 0, 0, 0, 0, 0, 0, 0, 0, 0]) (qs_set 1 (qe_fun F_law_fewest_balances hr px_takes (by rfl) (qa_cons (qe_v 0) (qa_cons qe_int qa_nil))) nd) (qb_cons (ds1 := [0, 0, 0, 0, 0, 0, 0, 0, 0, 0]) (qs_set 2 (qe_callB c_len (by rfl) T.z_len b_len (qr_cons (qe_rd (qe_v 1)) qr_nil)) nd) (qb_cons (ds1 := [0, 0, 0, 0, 0, 0, 0, 0, 0, 0]) (qs_set 3 (qe_callT (c_list (d := 0) (by omega)) (by rfl) T.z_list b_list (qr_cons (qe_rd (qe_v 1)) qr_nil)) nd) (qb_cons (ds1 := [0, 0, 0, 0, 0, 0, 0, 0, 0, 0]) (qs_set 4 (qe_fun F_fewest_payments hr px_takes (by rfl) (qa_cons (qe_v 3) qa_nil)) nd) (qb_cons (ds1 := [0, 0, 0, 0, 0, 0, 0, 0, 0, 0]) (qs_if (ds' := [0, 0, 0, 0, 0, 0, 0, 0, 0, 0]) (QW.t (qw_or (qt_not (qt_tru (qe_rd (qe_isi (T := "tuple") (by decide) (by rfl) T.z_isinstance rfl (by rfl) T.z_tuple b_tuple (qe_rd (qe_v 4)))))) (qw_or (qt_cmp (o_ne hu) (qe_rd (qe_callB c_len (by rfl) T.z_len b_len (qr_cons (qe_rd (qe_v 4)) qr_nil))) (qe_rd qe_int) (nomark _)) (qw_or (qt_not (qt_tru (qe_rd (qe_isi (T := "list") (by decide) (by rfl) T.z_isinstance rfl (by rfl) T.z_list b_list (qe_rd (qe_ix (qe_rd (qe_v 4)) (qe_rd qe_int))))))) (qw_or1 (qt_not (qt_tru (qe_rd (qe_fun F_law_like hr px_takes (by rfl) (qa_cons (qe_v 3) (qa_cons (qe_v 1) qa_nil))))))))))) (qb_cons (ds1 := [0, 0, 0, 0, 0, 0, 0, 0, 0, 0]) (qs_ret (d := 0) rfl qe_bl) qb_nil) qb_nil) (qb_cons (ds1 := [0, 0, 0, 0, 0, 0, 0, 0, 0, 0]) (qs_set 5 (qe_fun F_law_most_parts hr px_takes (by rfl) (qa_cons (qe_v 1) qa_nil)) nd) (qb_cons (ds1 := [0, 0, 0, 0, 0, 0, 0, 0, 0, 0]) (qs_if (ds' := [0, 0, 0, 0, 0, 0, 0, 0, 0, 0]) (qt_not (qt_tru (qe_rd (qe_fun F_law_like hr px_takes (by rfl) (qa_cons (qe_ix (qe_rd (qe_v 4)) (qe_rd qe_int)) (qa_cons (qe_lc (d := 0) (by omega) (own := [("one", 6)]) rfl nd (qi_e (qe_v 5)) (blkOk_by (N := N_law) (sc := defScope s_law) (by decide +kernel)) (by decide) (fun _ _ _ _ _ => (qg_n 6 (hN := nd))) (fun _ _ _ _ _ => qts_nil) (fun _ _ _ _ _ => (qe_ix (qe_rd (qe_v 6)) (qe_rd qe_int)))) qa_nil)))))) (qb_cons (ds1 := [0, 0, 0, 0, 0, 0, 0, 0, 0, 0]) (qs_ret (d := 0) rfl qe_bl) qb_nil) qb_nil) (qb_cons (ds1 := [0, 0, 0, 0, 0, 0, 0, 0, 0, 0]) (qs_for px_passes rfl (qi_e (qe_ix (qe_rd (qe_v 4)) (qe_rd qe_int))) (qg_n 7 (hN := nd)) (qb_cons (ds1 := [0, 0, 0, 0, 0, 0, 0, 0, 0, 0]) (qs_if (ds' := [0, 0, 0, 0, 0, 0, 0, 0, 0, 0]) (QW.t (qw_or (qt_not (qt_tru (qe_rd (qe_isi (T := "tuple") (by decide) (by rfl) T.z_isinstance rfl (by rfl) T.z_tuple b_tuple (qe_rd (qe_v 7)))))) (qw_or (qt_cmp (o_ne hu) (qe_rd (qe_callB c_len (by rfl) T.z_len b_len (qr_cons (qe_rd (qe_v 7)) qr_nil))) (qe_rd qe_int) (nomark _)) (qw_or1 (qt_not (qt_tru (qe_rd (qe_fun F_law_numbers hr px_takes (by rfl) (qa_cons (qe_callT (c_list (d := 0) (by omega)) (by rfl) T.z_list b_list (qr_cons (qe_rd (qe_v 7)) qr_nil)) qa_nil))))))))) (qb_cons (ds1 := [0, 0, 0, 0, 0, 0, 0, 0, 0, 0]) (qs_ret (d := 0) rfl qe_bl) qb_nil) qb_nil) qb_nil)) (qb_cons (ds1 := [0, 0, 0, 0, 0, 0, 0, 0, 0, 0]) (qs_set 8 (qe_ix (qe_rd (qe_v 5)) (qe_rd (qe_op o_sub (qe_rd (qe_callB c_len (by rfl) T.z_len b_len (qr_cons (qe_rd (qe_v 5)) qr_nil))) (qe_rd qe_int)))) nd) (qb_cons (ds1 := [0, 0, 0, 0, 0, 0, 0, 0, 0, 0]) (qs_if (ds' := [0, 0, 0, 0, 0, 0, 0, 0, 0, 0]) (QW.t (qw_or (qt_cmp (o_ne hu) (qe_rd (qe_callB (c_sum rfl) (by rfl) T.z_sum b_sum (qr_cons (qe_rd (qe_ix (qe_rd (qe_v 8)) (qe_rd qe_int))) qr_nil))) (qe_rd (qe_op o_sub (qe_rd (qe_callB c_len (by rfl) T.z_len b_len (qr_cons (qe_rd (qe_v 5)) qr_nil))) (qe_rd qe_int))) (nomark _)) (qw_or1 (qt_cmp (o_ne hu) (qe_rd (qe_callB c_len (by rfl) T.z_len b_len (qr_cons (qe_rd (qe_ix (qe_rd (qe_v 4)) (qe_rd qe_int))) qr_nil))) (qe_rd (qe_op o_sub (qe_rd (qe_v 2)) (qe_rd (qe_ix (qe_rd (qe_v 8)) (qe_rd qe_int))))) (nomark _))))) (qb_cons (ds1 := [0, 0, 0, 0, 0, 0, 0, 0, 0, 0]) (qs_ret (d := 0) rfl qe_bl) qb_nil) qb_nil) (qb_cons (ds1 := [0, 0, 0, 0, 0, 0, 0, 0, 0, 0]) (qs_if (ds' := [0, 0, 0, 0, 0, 0, 0, 0, 0, 0]) (QW.t (qw_or (qt_not (qt_tru (qe_rd (qe_fun F_law_settled hr px_takes (by rfl) (qa_cons (qe_v 1) (qa_cons (qe_ix (qe_rd (qe_v 4)) (qe_rd qe_int)) qa_nil)))))) (qw_or1 (qt_cmp o_isnot (qe_rd (qe_fun F_settles hr px_takes (by rfl) (qa_cons (qe_v 1) (qa_cons (qe_ix (qe_rd (qe_v 4)) (qe_rd qe_int)) qa_nil)))) (qe_rd qe_bl) (nomark _))))) (qb_cons (ds1 := [0, 0, 0, 0, 0, 0, 0, 0, 0, 0]) (qs_ret (d := 0) rfl qe_bl) qb_nil) qb_nil) (qb_cons (ds1 := [0, 0, 0, 0, 0, 0, 0, 0, 0, 0]) (qs_if (ds' := [0, 0, 0, 0, 0, 0, 0, 0, 0, 0]) (QW.t (qw_or (qt_cmp o_isnot (qe_rd (qe_fun F_judge_fewest hr px_takes (by rfl) (qa_cons (qe_v 1) (qa_cons (qe_v 4) qa_nil)))) (qe_rd qe_bl) (nomark _)) (qw_or1 (qt_not (qt_tru (qe_rd (qe_fun F_law_like hr px_takes (by rfl) (qa_cons (qe_v 3) (qa_cons (qe_v 1) qa_nil))))))))) (qb_cons (ds1 := [0, 0, 0, 0, 0, 0, 0, 0, 0, 0]) (qs_ret (d := 0) rfl qe_bl) qb_nil) qb_nil) (qb_cons (ds1 := [0, 0, 0, 0, 0, 0, 0, 0, 0, 0]) (qs_if (ds' := [0, 0, 0, 0, 0, 0, 0, 0, 0, 0]) (qt_cmp o_lt (qe_rd (qe_callB c_len (by rfl) T.z_len b_len (qr_cons (qe_rd (qe_fun F_plain_payments hr px_takes (by rfl) (qa_cons (qe_v 1) qa_nil))) qr_nil))) (qe_rd (qe_callB c_len (by rfl) T.z_len b_len (qr_cons (qe_rd (qe_ix (qe_rd (qe_v 4)) (qe_rd qe_int))) qr_nil))) (nomark _)) (qb_cons (ds1 := [0, 0, 0, 0, 0, 0, 0, 0, 0, 0]) (qs_ret (d := 0) rfl qe_bl) qb_nil) qb_nil) (qb_cons (ds1 := [0, 0, 0, 0, 0, 0, 0, 0, 0, 0]) (qs_set 9 (qe_fun F_fewest_payments hr px_takes (by rfl) (qa_cons (qe_lc (d := 0) (by omega) (own := [("one", 6)]) rfl nd (qi_e (qe_v 1)) (blkOk_by (N := N_law) (sc := defScope s_law) (by decide +kernel)) (by decide) (fun _ _ _ _ _ => (qg_n 6 (hN := nd))) (fun _ _ _ _ _ => qts_nil) (fun _ _ _ _ _ => (qe_op o_sub (qe_rd qe_int) (qe_rd (qe_v 6))))) qa_nil)) nd) (qb_cons (ds1 := [0, 0, 0, 0, 0, 0, 0, 0, 0, 0]) (qs_ret (d := 0) rfl (qe_and (qe_fun F_law_like hr px_takes (by rfl) (qa_cons (qe_ix (qe_rd (qe_v 9)) (qe_rd qe_int)) (qa_cons (qe_ix (qe_rd (qe_v 4)) (qe_rd qe_int)) qa_nil))) (qe_one (qe_cmp (o_eq hu) (qe_rd (qe_callB c_len (by rfl) T.z_len b_len (qr_cons (qe_rd (qe_ix (qe_rd (qe_v 9)) (qe_rd qe_int))) qr_nil))) (qe_rd (qe_callB c_len (by rfl) T.z_len b_len (qr_cons (qe_rd (qe_ix (qe_rd (qe_v 4)) (qe_rd qe_int))) qr_nil))) (nomark _))))) qb_nil)))))))))))))))
end
section
open PySem PySem.W PyProof.Rows L2 Pw
theorem all_mk {l : PySem.W.OpenLaw} {w : World} {K : PySem.W.Frag} {h : Heap} {mg : Str → Option Value} {fa : Addr} (X : K.In h) (G : h.Ns mainGlobals mg) (hfa : mg "law" = some (.ref fa))
    {f0 : Addr} {od0 an0 : Option Addr} {sl0 : Array (Option Value)} {oc0 kV0 dc0 pm0 cd0 ct0 : Value}
    {f1 : Addr} {od1 an1 : Option Addr} {sl1 : Array (Option Value)} {oc1 kV1 dc1 pm1 cd1 ct1 : Value}
    {f2 : Addr} {od2 an2 : Option Addr} {sl2 : Array (Option Value)} {oc2 kV2 dc2 pm2 cd2 ct2 : Value}
    {f3 : Addr} {od3 an3 : Option Addr} {sl3 : Array (Option Value)} {oc3 kV3 dc3 pm3 cd3 ct3 : Value}
    {f4 : Addr} {od4 an4 : Option Addr} {sl4 : Array (Option Value)} {oc4 kV4 dc4 pm4 cd4 ct4 : Value}
    {f5 : Addr} {od5 an5 : Option Addr} {sl5 : Array (Option Value)} {oc5 kV5 dc5 pm5 cd5 ct5 : Value}
    {f6 : Addr} {od6 an6 : Option Addr} {sl6 : Array (Option Value)} {oc6 kV6 dc6 pm6 cd6 ct6 : Value}
    {f7 : Addr} {od7 an7 : Option Addr} {sl7 : Array (Option Value)} {oc7 kV7 dc7 pm7 cd7 ct7 : Value}
    {f8 : Addr} {od8 an8 : Option Addr} {sl8 : Array (Option Value)} {oc8 kV8 dc8 pm8 cd8 ct8 : Value}
    {f9 : Addr} {od9 an9 : Option Addr} {sl9 : Array (Option Value)} {oc9 kV9 dc9 pm9 cd9 ct9 : Value}
    {f10 : Addr} {od10 an10 : Option Addr} {sl10 : Array (Option Value)} {oc10 kV10 dc10 pm10 cd10 ct10 : Value}
    {f11 : Addr} {od11 an11 : Option Addr} {sl11 : Array (Option Value)} {oc11 kV11 dc11 pm11 cd11 ct11 : Value}
    {f12 : Addr} {od12 an12 : Option Addr} {sl12 : Array (Option Value)} {oc12 kV12 dc12 pm12 cd12 ct12 : Value}
    {f13 : Addr} {od13 an13 : Option Addr} {sl13 : Array (Option Value)} {oc13 kV13 dc13 pm13 cd13 ct13 : Value}
    {f14 : Addr} {od14 an14 : Option Addr} {sl14 : Array (Option Value)} {oc14 kV14 dc14 pm14 cd14 ct14 : Value}
    {f15 : Addr} {od15 an15 : Option Addr} {sl15 : Array (Option Value)} {oc15 kV15 dc15 pm15 cd15 ct15 : Value}
    {f16 : Addr} {od16 an16 : Option Addr} {sl16 : Array (Option Value)} {oc16 kV16 dc16 pm16 cd16 ct16 : Value}
    {f17 : Addr} {od17 an17 : Option Addr} {sl17 : Array (Option Value)} {oc17 kV17 dc17 pm17 cd17 ct17 : Value}
    {f18 : Addr} {od18 an18 : Option Addr} {sl18 : Array (Option Value)} {oc18 kV18 dc18 pm18 cd18 ct18 : Value}
    {f19 : Addr} {od19 an19 : Option Addr} {sl19 : Array (Option Value)} {oc19 kV19 dc19 pm19 cd19 ct19 : Value}
    {f20 : Addr} {od20 an20 : Option Addr} {sl20 : Array (Option Value)} {oc20 kV20 dc20 pm20 cd20 ct20 : Value}
    {f21 : Addr} {od21 an21 : Option Addr} {sl21 : Array (Option Value)} {oc21 kV21 dc21 pm21 cd21 ct21 : Value}
    {f22 : Addr} {od22 an22 : Option Addr} {sl22 : Array (Option Value)} {oc22 kV22 dc22 pm22 cd22 ct22 : Value}
    {f23 : Addr} {od23 an23 : Option Addr} {sl23 : Array (Option Value)} {oc23 kV23 dc23 pm23 cd23 ct23 : Value}
    {f24 : Addr} {od24 an24 : Option Addr} {sl24 : Array (Option Value)} {oc24 kV24 dc24 pm24 cd24 ct24 : Value}
    {f25 : Addr} {od25 an25 : Option Addr} {sl25 : Array (Option Value)} {oc25 kV25 dc25 pm25 cd25 ct25 : Value}
    (a0 : PySem.W.nsIn K mainGlobals "riders_in" = some (some (.ref f0))) (l0 : K.lookup f0 = some ⟨oc0, od0, .func (PySem.W.fnOf "riders_in" "riders_in" (defArgs s_riders_in) (defBody s_riders_in) (defScope s_riders_in) .none kV0 dc0 pm0 an0 cd0 ct0), sl0⟩) (c0 : PySem.W.codeIn K cd0 "riders_in" = true) (k0 : PySem.W.keepIn K (.ref f0) = true)
    (a1 : PySem.W.nsIn K mainGlobals "alone" = some (some (.ref f1))) (l1 : K.lookup f1 = some ⟨oc1, od1, .func (PySem.W.fnOf "alone" "alone" (defArgs s_alone) (defBody s_alone) (defScope s_alone) .none kV1 dc1 pm1 an1 cd1 ct1), sl1⟩) (c1 : PySem.W.codeIn K cd1 "alone" = true) (k1 : PySem.W.keepIn K (.ref f1) = true)
    (a2 : PySem.W.nsIn K mainGlobals "after_payments" = some (some (.ref f2))) (l2 : K.lookup f2 = some ⟨oc2, od2, .func (PySem.W.fnOf "after_payments" "after_payments" (defArgs s_after_payments) (defBody s_after_payments) (defScope s_after_payments) .none kV2 dc2 pm2 an2 cd2 ct2), sl2⟩) (c2 : PySem.W.codeIn K cd2 "after_payments" = true) (k2 : PySem.W.keepIn K (.ref f2) = true)
    (a3 : PySem.W.nsIn K mainGlobals "is_payment" = some (some (.ref f3))) (l3 : K.lookup f3 = some ⟨oc3, od3, .func (PySem.W.fnOf "is_payment" "is_payment" (defArgs s_is_payment) (defBody s_is_payment) (defScope s_is_payment) .none kV3 dc3 pm3 an3 cd3 ct3), sl3⟩) (c3 : PySem.W.codeIn K cd3 "is_payment" = true) (k3 : PySem.W.keepIn K (.ref f3) = true)
    (a4 : PySem.W.nsIn K mainGlobals "settles" = some (some (.ref f4))) (l4 : K.lookup f4 = some ⟨oc4, od4, .func (PySem.W.fnOf "settles" "settles" (defArgs s_settles) (defBody s_settles) (defScope s_settles) .none kV4 dc4 pm4 an4 cd4 ct4), sl4⟩) (c4 : PySem.W.codeIn K cd4 "settles" = true) (k4 : PySem.W.keepIn K (.ref f4) = true)
    (a5 : PySem.W.nsIn K mainGlobals "plain_payments" = some (some (.ref f5))) (l5 : K.lookup f5 = some ⟨oc5, od5, .func (PySem.W.fnOf "plain_payments" "plain_payments" (defArgs s_plain_payments) (defBody s_plain_payments) (defScope s_plain_payments) .none kV5 dc5 pm5 an5 cd5 ct5), sl5⟩) (c5 : PySem.W.codeIn K cd5 "plain_payments" = true) (k5 : PySem.W.keepIn K (.ref f5) = true)
    (a6 : PySem.W.nsIn K mainGlobals "sum_in" = some (some (.ref f6))) (l6 : K.lookup f6 = some ⟨oc6, od6, .func (PySem.W.fnOf "sum_in" "sum_in" (defArgs s_sum_in) (defBody s_sum_in) (defScope s_sum_in) .none kV6 dc6 pm6 an6 cd6 ct6), sl6⟩) (c6 : PySem.W.codeIn K cd6 "sum_in" = true) (k6 : PySem.W.keepIn K (.ref f6) = true)
    (a7 : PySem.W.nsIn K mainGlobals "gain_of" = some (some (.ref f7))) (l7 : K.lookup f7 = some ⟨oc7, od7, .func (PySem.W.fnOf "gain_of" "gain_of" (defArgs s_gain_of) (defBody s_gain_of) (defScope s_gain_of) .none kV7 dc7 pm7 an7 cd7 ct7), sl7⟩) (c7 : PySem.W.codeIn K cd7 "gain_of" = true) (k7 : PySem.W.keepIn K (.ref f7) = true)
    (a8 : PySem.W.nsIn K mainGlobals "smallest_labels" = some (some (.ref f8))) (l8 : K.lookup f8 = some ⟨oc8, od8, .func (PySem.W.fnOf "smallest_labels" "smallest_labels" (defArgs s_smallest_labels) (defBody s_smallest_labels) (defScope s_smallest_labels) .none kV8 dc8 pm8 an8 cd8 ct8), sl8⟩) (c8 : PySem.W.codeIn K cd8 "smallest_labels" = true) (k8 : PySem.W.keepIn K (.ref f8) = true)
    (a9 : PySem.W.nsIn K mainGlobals "dividing_order" = some (some (.ref f9))) (l9 : K.lookup f9 = some ⟨oc9, od9, .func (PySem.W.fnOf "dividing_order" "dividing_order" (defArgs s_dividing_order) (defBody s_dividing_order) (defScope s_dividing_order) .none kV9 dc9 pm9 an9 cd9 ct9), sl9⟩) (c9 : PySem.W.codeIn K cd9 "dividing_order" = true) (k9 : PySem.W.keepIn K (.ref f9) = true)
    (a10 : PySem.W.nsIn K mainGlobals "payments_along" = some (some (.ref f10))) (l10 : K.lookup f10 = some ⟨oc10, od10, .func (PySem.W.fnOf "payments_along" "payments_along" (defArgs s_payments_along) (defBody s_payments_along) (defScope s_payments_along) .none kV10 dc10 pm10 an10 cd10 ct10), sl10⟩) (c10 : PySem.W.codeIn K cd10 "payments_along" = true) (k10 : PySem.W.keepIn K (.ref f10) = true)
    (a11 : PySem.W.nsIn K mainGlobals "fewest_payments" = some (some (.ref f11))) (l11 : K.lookup f11 = some ⟨oc11, od11, .func (PySem.W.fnOf "fewest_payments" "fewest_payments" (defArgs s_fewest_payments) (defBody s_fewest_payments) (defScope s_fewest_payments) .none kV11 dc11 pm11 an11 cd11 ct11), sl11⟩) (c11 : PySem.W.codeIn K cd11 "fewest_payments" = true) (k11 : PySem.W.keepIn K (.ref f11) = true)
    (a12 : PySem.W.nsIn K mainGlobals "labels_fit" = some (some (.ref f12))) (l12 : K.lookup f12 = some ⟨oc12, od12, .func (PySem.W.fnOf "labels_fit" "labels_fit" (defArgs s_labels_fit) (defBody s_labels_fit) (defScope s_labels_fit) .none kV12 dc12 pm12 an12 cd12 ct12), sl12⟩) (c12 : PySem.W.codeIn K cd12 "labels_fit" = true) (k12 : PySem.W.keepIn K (.ref f12) = true)
    (a13 : PySem.W.nsIn K mainGlobals "judge_fewest" = some (some (.ref f13))) (l13 : K.lookup f13 = some ⟨oc13, od13, .func (PySem.W.fnOf "judge_fewest" "judge_fewest" (defArgs s_judge_fewest) (defBody s_judge_fewest) (defScope s_judge_fewest) .none kV13 dc13 pm13 an13 cd13 ct13), sl13⟩) (c13 : PySem.W.codeIn K cd13 "judge_fewest" = true) (k13 : PySem.W.keepIn K (.ref f13) = true)
    (a14 : PySem.W.nsIn K mainGlobals "_law_draws" = some (some (.ref f14))) (l14 : K.lookup f14 = some ⟨oc14, od14, .func (PySem.W.fnOf "_law_draws" "_law_draws" (defArgs s_law_draws) (defBody s_law_draws) (defScope s_law_draws) .none kV14 dc14 pm14 an14 cd14 ct14), sl14⟩) (c14 : PySem.W.codeIn K cd14 "_law_draws" = true) (k14 : PySem.W.keepIn K (.ref f14) = true)
    (a15 : PySem.W.nsIn K mainGlobals "_law_like" = some (some (.ref f15))) (l15 : K.lookup f15 = some ⟨oc15, od15, .func (PySem.W.fnOf "_law_like" "_law_like" (defArgs s_law_like) (defBody s_law_like) (defScope s_law_like) .none kV15 dc15 pm15 an15 cd15 ct15), sl15⟩) (c15 : PySem.W.codeIn K cd15 "_law_like" = true) (k15 : PySem.W.keepIn K (.ref f15) = true)
    (a16 : PySem.W.nsIn K mainGlobals "_law_is_number" = some (some (.ref f16))) (l16 : K.lookup f16 = some ⟨oc16, od16, .func (PySem.W.fnOf "_law_is_number" "_law_is_number" (defArgs s_law_is_number) (defBody s_law_is_number) (defScope s_law_is_number) .none kV16 dc16 pm16 an16 cd16 ct16), sl16⟩) (c16 : PySem.W.codeIn K cd16 "_law_is_number" = true) (k16 : PySem.W.keepIn K (.ref f16) = true)
    (a17 : PySem.W.nsIn K mainGlobals "_law_numbers" = some (some (.ref f17))) (l17 : K.lookup f17 = some ⟨oc17, od17, .func (PySem.W.fnOf "_law_numbers" "_law_numbers" (defArgs s_law_numbers) (defBody s_law_numbers) (defScope s_law_numbers) .none kV17 dc17 pm17 an17 cd17 ct17), sl17⟩) (c17 : PySem.W.codeIn K cd17 "_law_numbers" = true) (k17 : PySem.W.keepIn K (.ref f17) = true)
    (a18 : PySem.W.nsIn K mainGlobals "_law_power" = some (some (.ref f18))) (l18 : K.lookup f18 = some ⟨oc18, od18, .func (PySem.W.fnOf "_law_power" "_law_power" (defArgs s_law_power) (defBody s_law_power) (defScope s_law_power) .none kV18 dc18 pm18 an18 cd18 ct18), sl18⟩) (c18 : PySem.W.codeIn K cd18 "_law_power" = true) (k18 : PySem.W.keepIn K (.ref f18) = true)
    (a19 : PySem.W.nsIn K mainGlobals "_law_members" = some (some (.ref f19))) (l19 : K.lookup f19 = some ⟨oc19, od19, .func (PySem.W.fnOf "_law_members" "_law_members" (defArgs s_law_members) (defBody s_law_members) (defScope s_law_members) .none kV19 dc19 pm19 an19 cd19 ct19), sl19⟩) (c19 : PySem.W.codeIn K cd19 "_law_members" = true) (k19 : PySem.W.keepIn K (.ref f19) = true)
    (a20 : PySem.W.nsIn K mainGlobals "_law_sum_in" = some (some (.ref f20))) (l20 : K.lookup f20 = some ⟨oc20, od20, .func (PySem.W.fnOf "_law_sum_in" "_law_sum_in" (defArgs s_law_sum_in) (defBody s_law_sum_in) (defScope s_law_sum_in) .none kV20 dc20 pm20 an20 cd20 ct20), sl20⟩) (c20 : PySem.W.codeIn K cd20 "_law_sum_in" = true) (k20 : PySem.W.keepIn K (.ref f20) = true)
    (a21 : PySem.W.nsIn K mainGlobals "_law_after" = some (some (.ref f21))) (l21 : K.lookup f21 = some ⟨oc21, od21, .func (PySem.W.fnOf "_law_after" "_law_after" (defArgs s_law_after) (defBody s_law_after) (defScope s_law_after) .none kV21 dc21 pm21 an21 cd21 ct21), sl21⟩) (c21 : PySem.W.codeIn K cd21 "_law_after" = true) (k21 : PySem.W.keepIn K (.ref f21) = true)
    (a22 : PySem.W.nsIn K mainGlobals "_law_settled" = some (some (.ref f22))) (l22 : K.lookup f22 = some ⟨oc22, od22, .func (PySem.W.fnOf "_law_settled" "_law_settled" (defArgs s_law_settled) (defBody s_law_settled) (defScope s_law_settled) .none kV22 dc22 pm22 an22 cd22 ct22), sl22⟩) (c22 : PySem.W.codeIn K cd22 "_law_settled" = true) (k22 : PySem.W.keepIn K (.ref f22) = true)
    (a23 : PySem.W.nsIn K mainGlobals "_law_fewest_balances" = some (some (.ref f23))) (l23 : K.lookup f23 = some ⟨oc23, od23, .func (PySem.W.fnOf "_law_fewest_balances" "_law_fewest_balances" (defArgs s_law_fewest_balances) (defBody s_law_fewest_balances) (defScope s_law_fewest_balances) .none kV23 dc23 pm23 an23 cd23 ct23), sl23⟩) (c23 : PySem.W.codeIn K cd23 "_law_fewest_balances" = true) (k23 : PySem.W.keepIn K (.ref f23) = true)
    (a24 : PySem.W.nsIn K mainGlobals "_law_most_parts" = some (some (.ref f24))) (l24 : K.lookup f24 = some ⟨oc24, od24, .func (PySem.W.fnOf "_law_most_parts" "_law_most_parts" (defArgs s_law_most_parts) (defBody s_law_most_parts) (defScope s_law_most_parts) .none kV24 dc24 pm24 an24 cd24 ct24), sl24⟩) (c24 : PySem.W.codeIn K cd24 "_law_most_parts" = true) (k24 : PySem.W.keepIn K (.ref f24) = true)
    (a25 : PySem.W.nsIn K mainGlobals "law" = some (some (.ref f25))) (l25 : K.lookup f25 = some ⟨oc25, od25, .func (PySem.W.fnOf "law" "law" (defArgs s_law) (defBody s_law) (defScope s_law) .none kV25 dc25 pm25 an25 cd25 ct25), sl25⟩) (c25 : PySem.W.codeIn K cd25 "law" = true) (k25 : PySem.W.keepIn K (.ref f25) = true)
    (z_all : PySem.W.nsIn K mainGlobals "all" = some none)
    (z_any : PySem.W.nsIn K mainGlobals "any" = some none)
    (z_bool : PySem.W.nsIn K mainGlobals "bool" = some none)
    (z_int : PySem.W.nsIn K mainGlobals "int" = some none)
    (z_isinstance : PySem.W.nsIn K mainGlobals "isinstance" = some none)
    (z_len : PySem.W.nsIn K mainGlobals "len" = some none)
    (z_list : PySem.W.nsIn K mainGlobals "list" = some none)
    (z_max : PySem.W.nsIn K mainGlobals "max" = some none)
    (z_min : PySem.W.nsIn K mainGlobals "min" = some none)
    (z_range : PySem.W.nsIn K mainGlobals "range" = some none)
    (z_reversed : PySem.W.nsIn K mainGlobals "reversed" = some none)
    (z_str : PySem.W.nsIn K mainGlobals "str" = some none)
    (z_sum : PySem.W.nsIn K mainGlobals "sum" = some none)
    (z_tuple : PySem.W.nsIn K mainGlobals "tuple" = some none) :
    ∃ fd : FuncData, (∀ (s : Shared) (v : Value), BindsTo s fd ⟨[v], []⟩ [("script", v)]) ∧ ∀ base : Heap, K.In base → base.Ns mainGlobals mg → FnOk l.prog w K mg base (L2.CX l.prog w) 16 fa fd ["script"] (spD K mg 1 0 d_law) := by
  have e := hfa.symm.trans (PySem.W.mg_of X G a25)
  cases e
  have T : Tx mg := ⟨PySem.W.mg_none_of X G z_all, PySem.W.mg_none_of X G z_any, PySem.W.mg_none_of X G z_bool, PySem.W.mg_none_of X G z_int, PySem.W.mg_none_of X G z_isinstance, PySem.W.mg_none_of X G z_len, PySem.W.mg_none_of X G z_list, PySem.W.mg_none_of X G z_max, PySem.W.mg_none_of X G z_min, PySem.W.mg_none_of X G z_range, PySem.W.mg_none_of X G z_reversed, PySem.W.mg_none_of X G z_str, PySem.W.mg_none_of X G z_sum, PySem.W.mg_none_of X G z_tuple⟩
  
  have U0 := fun_mk (st := s_riders_in) l0 c0 k0
  have B0 := U0.binds (ps := ps_riders_in) fun _ _ _ _ _ _ us hl => match us, hl with | [_], _ => rfl
  have U1 := fun_mk (st := s_alone) l1 c1 k1
  have B1 := U1.binds (ps := ps_alone) fun _ _ _ _ _ _ us hl => match us, hl with | [_], _ => rfl
  have U2 := fun_mk (st := s_after_payments) l2 c2 k2
  have B2 := U2.binds (ps := ps_after_payments) fun _ _ _ _ _ _ us hl => match us, hl with | [_, _], _ => rfl
  have U3 := fun_mk (st := s_is_payment) l3 c3 k3
  have B3 := U3.binds (ps := ps_is_payment) fun _ _ _ _ _ _ us hl => match us, hl with | [_, _, _, _], _ => rfl
  have U4 := fun_mk (st := s_settles) l4 c4 k4
  have B4 := U4.binds (ps := ps_settles) fun _ _ _ _ _ _ us hl => match us, hl with | [_, _], _ => rfl
  have U5 := fun_mk (st := s_plain_payments) l5 c5 k5
  have B5 := U5.binds (ps := ps_plain_payments) fun _ _ _ _ _ _ us hl => match us, hl with | [_], _ => rfl
  have U6 := fun_mk (st := s_sum_in) l6 c6 k6
  have B6 := U6.binds (ps := ps_sum_in) fun _ _ _ _ _ _ us hl => match us, hl with | [_, _], _ => rfl
  have U7 := fun_mk (st := s_gain_of) l7 c7 k7
  have B7 := U7.binds (ps := ps_gain_of) fun _ _ _ _ _ _ us hl => match us, hl with | [_, _], _ => rfl
  have U8 := fun_mk (st := s_smallest_labels) l8 c8 k8
  have B8 := U8.binds (ps := ps_smallest_labels) fun _ _ _ _ _ _ us hl => match us, hl with | [_], _ => rfl
  have U9 := fun_mk (st := s_dividing_order) l9 c9 k9
  have B9 := U9.binds (ps := ps_dividing_order) fun _ _ _ _ _ _ us hl => match us, hl with | [_, _], _ => rfl
  have U10 := fun_mk (st := s_payments_along) l10 c10 k10
  have B10 := U10.binds (ps := ps_payments_along) fun _ _ _ _ _ _ us hl => match us, hl with | [_, _], _ => rfl
  have U11 := fun_mk (st := s_fewest_payments) l11 c11 k11
  have B11 := U11.binds (ps := ps_fewest_payments) fun _ _ _ _ _ _ us hl => match us, hl with | [_], _ => rfl
  have U12 := fun_mk (st := s_labels_fit) l12 c12 k12
  have B12 := U12.binds (ps := ps_labels_fit) fun _ _ _ _ _ _ us hl => match us, hl with | [_, _], _ => rfl
  have U13 := fun_mk (st := s_judge_fewest) l13 c13 k13
  have B13 := U13.binds (ps := ps_judge_fewest) fun _ _ _ _ _ _ us hl => match us, hl with | [_, _], _ => rfl
  have U14 := fun_mk (st := s_law_draws) l14 c14 k14
  have B14 := U14.binds (ps := ps_law_draws) fun _ _ _ _ _ _ us hl => match us, hl with | [_, _, _], _ => rfl
  have U15 := fun_mk (st := s_law_like) l15 c15 k15
  have B15 := U15.binds (ps := ps_law_like) fun _ _ _ _ _ _ us hl => match us, hl with | [_, _], _ => rfl
  have U16 := fun_mk (st := s_law_is_number) l16 c16 k16
  have B16 := U16.binds (ps := ps_law_is_number) fun _ _ _ _ _ _ us hl => match us, hl with | [_], _ => rfl
  have U17 := fun_mk (st := s_law_numbers) l17 c17 k17
  have B17 := U17.binds (ps := ps_law_numbers) fun _ _ _ _ _ _ us hl => match us, hl with | [_], _ => rfl
  have U18 := fun_mk (st := s_law_power) l18 c18 k18
  have B18 := U18.binds (ps := ps_law_power) fun _ _ _ _ _ _ us hl => match us, hl with | [_], _ => rfl
  have U19 := fun_mk (st := s_law_members) l19 c19 k19
  have B19 := U19.binds (ps := ps_law_members) fun _ _ _ _ _ _ us hl => match us, hl with | [_, _], _ => rfl
  have U20 := fun_mk (st := s_law_sum_in) l20 c20 k20
  have B20 := U20.binds (ps := ps_law_sum_in) fun _ _ _ _ _ _ us hl => match us, hl with | [_, _], _ => rfl
  have U21 := fun_mk (st := s_law_after) l21 c21 k21
  have B21 := U21.binds (ps := ps_law_after) fun _ _ _ _ _ _ us hl => match us, hl with | [_, _], _ => rfl
  have U22 := fun_mk (st := s_law_settled) l22 c22 k22
  have B22 := U22.binds (ps := ps_law_settled) fun _ _ _ _ _ _ us hl => match us, hl with | [_, _], _ => rfl
  have U23 := fun_mk (st := s_law_fewest_balances) l23 c23 k23
  have B23 := U23.binds (ps := ps_law_fewest_balances) fun _ _ _ _ _ _ us hl => match us, hl with | [_, _], _ => rfl
  have U24 := fun_mk (st := s_law_most_parts) l24 c24 k24
  have B24 := U24.binds (ps := ps_law_most_parts) fun _ _ _ _ _ _ us hl => match us, hl with | [_], _ => rfl
  have U25 := fun_mk (st := s_law) l25 c25 k25
  refine ⟨PySem.W.fnOf "law" "law" (defArgs s_law) (defBody s_law) (defScope s_law) .none kV25 dc25 pm25 an25 cd25 ct25, fun s v => .of_eq rfl, fun base _ _ => ?_⟩
  have F_riders_in := ok_riders_in (P := l.prog) (w := w) (base := base) T U0 B0 (PySem.W.mg_of X G a0)  
  have F_alone := ok_alone (P := l.prog) (w := w) (base := base) T U1 B1 (PySem.W.mg_of X G a1)  
  have F_after_payments := ok_after_payments (P := l.prog) (w := w) (base := base) T U2 B2 (PySem.W.mg_of X G a2)  
  have F_is_payment := ok_is_payment (P := l.prog) (w := w) (base := base) T U3 B3 (PySem.W.mg_of X G a3)  
  have F_settles := ok_settles (P := l.prog) (w := w) (base := base) T U4 B4 (PySem.W.mg_of X G a4) F_is_payment F_after_payments 
  have F_plain_payments := ok_plain_payments (P := l.prog) (w := w) (base := base) T U5 B5 (PySem.W.mg_of X G a5) F_after_payments 
  have F_sum_in := ok_sum_in (P := l.prog) (w := w) (base := base) T U6 B6 (PySem.W.mg_of X G a6) F_riders_in 
  have F_gain_of := ok_gain_of (P := l.prog) (w := w) (base := base) T U7 B7 (PySem.W.mg_of X G a7) F_sum_in 
  have F_smallest_labels := ok_smallest_labels (P := l.prog) (w := w) (base := base) T U8 B8 (PySem.W.mg_of X G a8) F_riders_in F_alone F_gain_of 
  have F_dividing_order := ok_dividing_order (P := l.prog) (w := w) (base := base) T U9 B9 (PySem.W.mg_of X G a9) F_gain_of F_riders_in F_alone 
  have F_payments_along := ok_payments_along (P := l.prog) (w := w) (base := base) T U10 B10 (PySem.W.mg_of X G a10)  
  have F_fewest_payments := ok_fewest_payments (P := l.prog) (w := w) (base := base) T U11 B11 (PySem.W.mg_of X G a11) F_smallest_labels F_payments_along F_dividing_order 
  have F_labels_fit := ok_labels_fit (P := l.prog) (w := w) (base := base) T U12 B12 (PySem.W.mg_of X G a12) F_alone F_gain_of F_riders_in 
  have F_judge_fewest := ok_judge_fewest (P := l.prog) (w := w) (base := base) T U13 B13 (PySem.W.mg_of X G a13) F_labels_fit F_settles 
  have F_law_draws := ok_law_draws (P := l.prog) (w := w) (base := base) T U14 B14 (PySem.W.mg_of X G a14)  
  have F_law_like := ok_law_like (P := l.prog) (w := w) (base := base) T U15 B15 (PySem.W.mg_of X G a15)  
  have F_law_is_number := ok_law_is_number (P := l.prog) (w := w) (base := base) T U16 B16 (PySem.W.mg_of X G a16)  
  have F_law_numbers := ok_law_numbers (P := l.prog) (w := w) (base := base) T U17 B17 (PySem.W.mg_of X G a17) F_law_is_number 
  have F_law_power := ok_law_power (P := l.prog) (w := w) (base := base) T U18 B18 (PySem.W.mg_of X G a18)  
  have F_law_members := ok_law_members (P := l.prog) (w := w) (base := base) T U19 B19 (PySem.W.mg_of X G a19) F_law_power 
  have F_law_sum_in := ok_law_sum_in (P := l.prog) (w := w) (base := base) T U20 B20 (PySem.W.mg_of X G a20) F_law_members 
  have F_law_after := ok_law_after (P := l.prog) (w := w) (base := base) T U21 B21 (PySem.W.mg_of X G a21)  
  have F_law_settled := ok_law_settled (P := l.prog) (w := w) (base := base) T U22 B22 (PySem.W.mg_of X G a22) F_law_after 
  have F_law_fewest_balances := ok_law_fewest_balances (P := l.prog) (w := w) (base := base) T U23 B23 (PySem.W.mg_of X G a23) F_law_draws 
  have F_law_most_parts := ok_law_most_parts (P := l.prog) (w := w) (base := base) T U24 B24 (PySem.W.mg_of X G a24) F_law_power F_law_sum_in F_law_members 
  exact okf_law T U25 F_law_fewest_balances F_fewest_payments F_law_like F_law_most_parts F_law_numbers F_settles F_law_settled F_judge_fewest F_plain_payments 
end
theorem walk {l : PySem.W.OpenLaw} {q : Program} {loose : List Str} {XP : (Str → Option Value) → Heap → Prop} {YP : World → Heap → Prop} {d : DefRec} {K : Params → PySem.W.Frag} (hd : ∀ ns : List Int, ns.length ≤ 63 → (∀ z ∈ ns, Builtin.Int.intBits z ≤ 1048576) → d_law [.ro ns] = .ok (.bl true)) (hn : l.most = some 63) (hdf : d.params.defaults = [])
    (hY : ∀ (w : World) (h : Heap), YP w h → (K w.params).In h)
    (F : ∀ (w : World) (mg : Str → Option Value) (fa : Addr) (h : Heap), (K w.params).In h → h.Ns mainGlobals mg → mg d.name = some (.ref fa) →
      ∃ fd : FuncData, (∀ (s : Shared) (u : Value), BindsTo s fd ⟨[u], []⟩ [("script", u)]) ∧ ∀ base : Heap, (K w.params).In base → base.Ns mainGlobals mg → FnOk l.prog w (K w.params) mg base (L2.CX l.prog w) 16 fa fd ["script"] (spD (K w.params) mg 1 0 d_law)) :
    PySem.W.WalkO q loose XP YP l.row.toRowW d [] (fun f vs => PySem.call f vs) :=
  walk_end hd hn hdf ⟨rfl, by decide, by decide⟩ hY F
end Pw.K66

open PySem PySem.W PyProof.Rows in
set_option maxRecDepth 100000 in
set_option maxHeartbeats 0 in
theorem PySem.Challenge.cw_ridesshared_k66_whole_fewest_payments_holds : PySem.Challenge.rw_ridesshared_k66_whole_fewest_payments.Holds := by
  w_on; o_law; k_head; (case hw => w_witness2)
  k_fill
  refine Pw.K66.walk (l := PySem.Challenge.rw_ridesshared_k66_whole_fewest_payments) Pw.K66.law_holds rfl rfl (fun w h Y => PySem.W.kIn_of Y) ?F
  case F =>
    intro w mg fa h KX G hmg
    refine' Pw.K66.all_mk KX G hmg ?a0 ?l0 ?c0 ?k0 ?a1 ?l1 ?c1 ?k1 ?a2 ?l2 ?c2 ?k2 ?a3 ?l3 ?c3 ?k3 ?a4 ?l4 ?c4 ?k4 ?a5 ?l5 ?c5 ?k5 ?a6 ?l6 ?c6 ?k6 ?a7 ?l7 ?c7 ?k7 ?a8 ?l8 ?c8 ?k8 ?a9 ?l9 ?c9 ?k9 ?a10 ?l10 ?c10 ?k10 ?a11 ?l11 ?c11 ?k11 ?a12 ?l12 ?c12 ?k12 ?a13 ?l13 ?c13 ?k13 ?a14 ?l14 ?c14 ?k14 ?a15 ?l15 ?c15 ?k15 ?a16 ?l16 ?c16 ?k16 ?a17 ?l17 ?c17 ?k17 ?a18 ?l18 ?c18 ?k18 ?a19 ?l19 ?c19 ?k19 ?a20 ?l20 ?c20 ?k20 ?a21 ?l21 ?c21 ?k21 ?a22 ?l22 ?c22 ?k22 ?a23 ?l23 ?c23 ?k23 ?a24 ?l24 ?c24 ?k24 ?a25 ?l25 ?c25 ?k25 ?z_all ?z_any ?z_bool ?z_int ?z_isinstance ?z_len ?z_list ?z_max ?z_min ?z_range ?z_reversed ?z_str ?z_sum ?z_tuple
    (case a0 => k_is)
    (case l0 => k_is)
    (case c0 => k_is)
    (case k0 => k_is)
    (case a1 => k_is)
    (case l1 => k_is)
    (case c1 => k_is)
    (case k1 => k_is)
    (case a2 => k_is)
    (case l2 => k_is)
    (case c2 => k_is)
    (case k2 => k_is)
    (case a3 => k_is)
    (case l3 => k_is)
    (case c3 => k_is)
    (case k3 => k_is)
    (case a4 => k_is)
    (case l4 => k_is)
    (case c4 => k_is)
    (case k4 => k_is)
    (case a5 => k_is)
    (case l5 => k_is)
    (case c5 => k_is)
    (case k5 => k_is)
    (case a6 => k_is)
    (case l6 => k_is)
    (case c6 => k_is)
    (case k6 => k_is)
    (case a7 => k_is)
    (case l7 => k_is)
    (case c7 => k_is)
    (case k7 => k_is)
    (case a8 => k_is)
    (case l8 => k_is)
    (case c8 => k_is)
    (case k8 => k_is)
    (case a9 => k_is)
    (case l9 => k_is)
    (case c9 => k_is)
    (case k9 => k_is)
    (case a10 => k_is)
    (case l10 => k_is)
    (case c10 => k_is)
    (case k10 => k_is)
    (case a11 => k_is)
    (case l11 => k_is)
    (case c11 => k_is)
    (case k11 => k_is)
    (case a12 => k_is)
    (case l12 => k_is)
    (case c12 => k_is)
    (case k12 => k_is)
    (case a13 => k_is)
    (case l13 => k_is)
    (case c13 => k_is)
    (case k13 => k_is)
    (case a14 => k_is)
    (case l14 => k_is)
    (case c14 => k_is)
    (case k14 => k_is)
    (case a15 => k_is)
    (case l15 => k_is)
    (case c15 => k_is)
    (case k15 => k_is)
    (case a16 => k_is)
    (case l16 => k_is)
    (case c16 => k_is)
    (case k16 => k_is)
    (case a17 => k_is)
    (case l17 => k_is)
    (case c17 => k_is)
    (case k17 => k_is)
    (case a18 => k_is)
    (case l18 => k_is)
    (case c18 => k_is)
    (case k18 => k_is)
    (case a19 => k_is)
    (case l19 => k_is)
    (case c19 => k_is)
    (case k19 => k_is)
    (case a20 => k_is)
    (case l20 => k_is)
    (case c20 => k_is)
    (case k20 => k_is)
    (case a21 => k_is)
    (case l21 => k_is)
    (case c21 => k_is)
    (case k21 => k_is)
    (case a22 => k_is)
    (case l22 => k_is)
    (case c22 => k_is)
    (case k22 => k_is)
    (case a23 => k_is)
    (case l23 => k_is)
    (case c23 => k_is)
    (case k23 => k_is)
    (case a24 => k_is)
    (case l24 => k_is)
    (case c24 => k_is)
    (case k24 => k_is)
    (case a25 => k_is)
    (case l25 => k_is)
    (case c25 => k_is)
    (case k25 => k_is)
    (case z_all => k_is)
    (case z_any => k_is)
    (case z_bool => k_is)
    (case z_int => k_is)
    (case z_isinstance => k_is)
    (case z_len => k_is)
    (case z_list => k_is)
    (case z_max => k_is)
    (case z_min => k_is)
    (case z_range => k_is)
    (case z_reversed => k_is)
    (case z_str => k_is)
    (case z_sum => k_is)
    (case z_tuple => k_is)
