import PyProof.Rows.All
import Wide.All
import OpenK.AllK
import Wide.FinOn
import HandS.ForMost
import HandS.ForExc
import HandS.Wide
import HandS.IsInst
import HandS.Walk
import HandS.Conv
import HandS.Style
import HandS.SortInts
import HandS.Gcd
import HandS.Deep
import HandS.TupLe
import HandS.RevRange
import HandS.EndBits
import PySem.Challenge.RW_ridesshared_k62_whole_cents_lose_nothing
set_option Elab.async false
set_option linter.all false
set_option maxRecDepth 100000
set_option maxHeartbeats 2000000
namespace Pw
open PySem L2

/-! ### values without a heap -/
inductive PV where
  | non | bl (b : Bool) | int (i : Int) | str (x : Str) | lst (xs : List PV) | tup (xs : List PV) | ro (ns : List Int)

/-- a tuple of the module -/
def TupK (K : PySem.W.Frag) (a : Addr) (vs : List V) : Prop := ∃ (o : Obj) (its : Array Value) (n : Nat), K.lookup a = some o ∧ o.cls = .type "tuple" ∧ o.data = .seq its n ∧ its.size ≤ sizeLine ∧ Vals vs its.toList
def TupAt (K : PySem.W.Frag) (F : Hp) (a : Addr) (vs : List V) : Prop := F a = some (.tup vs) ∨ TupK K a vs
theorem TupAt.mono {K : PySem.W.Frag} {F F' : Hp} {a : Addr} {vs : List V} (h : Same F F') : TupAt K F a vs → TupAt K F' a vs
  | .inl e => .inl (h _ _ e)
  | .inr e => .inr e
theorem TupAt.sq {K : PySem.W.Frag} {F : Hp} {a : Addr} {vs : List V} : TupAt K F a vs → SqT K F a vs
  | .inl e => SqT.of e
  | .inr e => .inr e
mutual
def Rep (K : PySem.W.Frag) (F : Hp) : PV → V → Prop
  | .non, v => v = .non
  | .bl b, v => v = .bl b
  | .int i, v => v = .int i
  | .str x, v => v = .str x
  | .lst xs, v => ∃ a vs, v = .ref a ∧ F a = some (.lst vs) ∧ RepL K F xs vs
  | .tup xs, v => ∃ a vs, v = .ref a ∧ TupAt K F a vs ∧ RepL K F xs vs
  | .ro ns, v => ∃ a, v = .ref a ∧ SqL K F a (ns.map V.int)
def RepL (K : PySem.W.Frag) (F : Hp) : List PV → List V → Prop
  | [], vs => vs = []
  | x :: xs, vs => ∃ v r, vs = v :: r ∧ Rep K F x v ∧ RepL K F xs r
end
section
variable {K : PySem.W.Frag} {F F' : Hp}
mutual
theorem Rep.mono (h : Same F F') : ∀ {x : PV} {v : V}, Rep K F x v → Rep K F' x v
  | .non, _, q => q
  | .bl _, _, q => q
  | .int _, _, q => q
  | .str _, _, q => q
  | .lst xs, _, ⟨a, vs, e, f, r⟩ => ⟨a, vs, e, h _ _ f, RepL.mono h r⟩
  | .tup xs, _, ⟨a, vs, e, f, r⟩ => ⟨a, vs, e, f.mono h, RepL.mono h r⟩
  | .ro ns, _, ⟨a, e, f⟩ => ⟨a, e, h.seq f⟩
theorem RepL.mono (h : Same F F') : ∀ {xs : List PV} {vs : List V}, RepL K F xs vs → RepL K F' xs vs
  | [], _, q => q
  | x :: xs, _, ⟨v, r, e, p, q⟩ => ⟨v, r, e, Rep.mono h p, RepL.mono h q⟩
end
theorem RepL.length : ∀ {xs : List PV} {vs : List V}, RepL K F xs vs → vs.length = xs.length
  | [], vs, h => by rw [show vs = [] from h]; rfl
  | x :: xs, _, ⟨v, r, e, p, q⟩ => by rw [e, List.length_cons, List.length_cons, RepL.length q]
theorem RepL.get : ∀ {xs : List PV} {vs : List V} {i : Nat} {x : PV}, RepL K F xs vs → xs[i]? = some x → ∃ v, vs[i]? = some v ∧ Rep K F x v
  | [], _, i, x, h, e => by simp at e
  | y :: xs, _, 0, x, ⟨v, r, e, p, q⟩, e' => by
    simp at e'; subst e'; subst e; exact ⟨v, by simp, p⟩
  | y :: xs, _, i + 1, x, ⟨v, r, e, p, q⟩, e' => by
    subst e
    obtain ⟨u, h1, h2⟩ := RepL.get (i := i) (x := x) q (by simpa using e')
    exact ⟨u, by simpa using h1, h2⟩
theorem RepL.append : ∀ {xs ys : List PV} {vs us : List V}, RepL K F xs vs → RepL K F ys us → RepL K F (xs ++ ys) (vs ++ us)
  | [], ys, vs, us, h, q => by rw [show vs = [] from h]; exact q
  | x :: xs, ys, _, us, ⟨v, r, e, p, q⟩, q' => by
    subst e
    exact ⟨v, r ++ us, rfl, p, RepL.append q q'⟩
theorem RepL.set : ∀ {xs : List PV} {vs : List V} {x : PV} {v : V} (i : Nat), RepL K F xs vs → Rep K F x v → RepL K F (xs.set i x) (vs.set i v)
  | [], vs, _, _, _, h, _ => by rw [show vs = [] from h]; exact rfl
  | y :: xs, _, _, _, 0, ⟨v, r, e, p, q⟩, h => by subst e; exact ⟨_, _, rfl, h, q⟩
  | y :: xs, _, _, _, i + 1, ⟨v, r, e, p, q⟩, h => by subst e; exact ⟨_, _, rfl, p, RepL.set i q h⟩
theorem RepL.take : ∀ {xs : List PV} {vs : List V} (n : Nat), RepL K F xs vs → RepL K F (xs.take n) (vs.take n)
  | _, _, 0, _ => by simp; exact rfl
  | [], vs, _ + 1, h => by rw [show vs = [] from h]; exact rfl
  | x :: xs, _, n + 1, ⟨v, r, e, p, q⟩ => by subst e; exact ⟨_, _, rfl, p, RepL.take n q⟩
theorem RepL.drop : ∀ {xs : List PV} {vs : List V} (n : Nat), RepL K F xs vs → RepL K F (xs.drop n) (vs.drop n)
  | _, _, 0, h => h
  | [], vs, _ + 1, h => by rw [show vs = [] from h]; exact rfl
  | x :: xs, _, n + 1, ⟨v, r, e, p, q⟩ => by subst e; exact RepL.drop n q
theorem RepL.eraseIdx : ∀ {xs : List PV} {vs : List V} (n : Nat), RepL K F xs vs → RepL K F (xs.eraseIdx n) (vs.eraseIdx n)
  | [], vs, _, h => by rw [show vs = [] from h]; exact rfl
  | x :: xs, _, 0, ⟨v, r, e, p, q⟩ => by subst e; exact q
  | x :: xs, _, n + 1, ⟨v, r, e, p, q⟩ => by subst e; exact ⟨_, _, rfl, p, RepL.eraseIdx n q⟩
theorem RepL.of_ints (F : Hp) : ∀ (ns : List Int), RepL K F (ns.map PV.int) (ns.map V.int)
  | [] => rfl
  | n :: ns => ⟨_, _, rfl, rfl, RepL.of_ints F ns⟩
theorem RepL.cons {x : PV} {v : V} {xs : List PV} {vs : List V} (h : Rep K F x v) (q : RepL K F xs vs) : RepL K F (x :: xs) (v :: vs) := ⟨_, _, rfl, h, q⟩
theorem RepL.rep {xs : List PV} {vs : List V} (h : RepL K F xs vs) : ∀ k : Nat, RepL K F (List.replicate k xs).flatten (List.replicate k vs).flatten
  | 0 => rfl
  | k + 1 => by
    rw [List.replicate_succ, List.replicate_succ, List.flatten_cons, List.flatten_cons]
    exact RepL.append h (RepL.rep h k)
theorem RepL.reverse : ∀ {xs : List PV} {vs : List V}, RepL K F xs vs → RepL K F xs.reverse vs.reverse
  | [], vs, h => by rw [show vs = [] from h]; exact rfl
  | x :: xs, _, ⟨v, r, e, p, q⟩ => by
    subst e
    rw [List.reverse_cons, List.reverse_cons]
    exact RepL.append (RepL.reverse q) (RepL.cons p rfl)
end

/-! ### results -/
inductive Rs (α : Type) where
  | stuck | exc (c : Str) | ok (a : α)
namespace Rs
variable {α β : Type}
def bind : Rs α → (α → Rs β) → Rs β
  | .stuck, _ => .stuck
  | .exc c, _ => .exc c
  | .ok a, f => f a
def wp (r : Rs α) (E : Str → Prop) (Q : α → Prop) : Prop :=
  match r with
  | .stuck => False
  | .exc c => E c
  | .ok a => Q a
theorem wp_bind {r : Rs α} {f : α → Rs β} {E : Str → Prop} {Q : β → Prop} : (r.bind f).wp E Q ↔ r.wp E fun a => (f a).wp E Q := by
  cases r <;> exact Iff.rfl
theorem wp_mono {r : Rs α} {E E' : Str → Prop} {Q Q' : α → Prop} (h : r.wp E Q) (hE : ∀ c, E c → E' c) (hQ : ∀ a, Q a → Q' a) : r.wp E' Q' := by
  cases r with
  | stuck => exact h
  | exc c => exact hE c h
  | ok a => exact hQ a h
def opt : Option α → Rs α
  | some a => .ok a
  | none => .stuck
theorem opt_wp {o : Option α} {E : Str → Prop} {Q : α → Prop} (h : (opt o).wp E Q) : ∃ a, o = some a ∧ Q a := by
  cases o with
  | none => exact h.elim
  | some a => exact ⟨a, rfl, h⟩
/-- without exceptions -/
def noexc : Rs α → Rs α
  | .exc _ => .stuck
  | r => r
@[simp] theorem bind_ok (a : α) (f : α → Rs β) : (Rs.ok a).bind f = f a := rfl
@[simp] theorem bind_stuck (f : α → Rs β) : (Rs.stuck : Rs α).bind f = .stuck := rfl
@[simp] theorem bind_exc (c : Str) (f : α → Rs β) : (Rs.exc c : Rs α).bind f = .exc c := rfl
@[simp] theorem noexc_ok (a : α) : (Rs.ok a).noexc = .ok a := rfl
@[simp] theorem noexc_stuck : (Rs.stuck : Rs α).noexc = .stuck := rfl
@[simp] theorem opt_some (a : α) : opt (some a) = .ok a := rfl
@[simp] theorem opt_none : opt (none : Option α) = .stuck := rfl
end Rs
abbrev Env := List (Option PV)

/-! ### the state -/
structure Gh where
  H0 : Hp
  F0 : Hp
abbrev Om := Addr → Option (Addr × Option Nat)
structure Le (F : Hp) (ω : Om) (H F' : Hp) (ω' : Om) (H' : Hp) : Prop where
  f : Same F F'
  o : ∀ p l, ω p = some l → ω' p = some l
  h : Same H H'
theorem Le.refl (F : Hp) (ω : Om) (H : Hp) : Le F ω H F ω H := ⟨.refl F, fun _ _ h => h, .refl H⟩
theorem Le.trans {F : Hp} {ω : Om} {H F1 : Hp} {ω1 : Om} {H1 F2 : Hp} {ω2 : Om} {H2 : Hp} (a : Le F ω H F1 ω1 H1) (b : Le F1 ω1 H1 F2 ω2 H2) : Le F ω H F2 ω2 H2 :=
  ⟨a.f.trans b.f, fun p l h => b.o p l (a.o p l h), a.h.trans b.h⟩
structure Wd (G : Gh) (F : Hp) (ω : Om) (H : Hp) : Prop where
  h0 : Same G.H0 H
  f0 : Same G.F0 F
  f : Same F H
  nw : ∀ a xs o', F a = some (.lst xs) → G.H0 a = some o' → ∃ o'', G.F0 a = some o''
  om : ∀ p l, ω p = some l → F p = none ∧ G.H0 p = none ∧ ∃ vs, H p = some (.lst vs)
/-- a value that may be read: a list may be one that is still changed -/
def Rv (K : PySem.W.Frag) (F H : Hp) (x : PV) (v : V) : Prop := Rep K F x v ∨ ∃ a vs xs, x = .lst xs ∧ v = .ref a ∧ H a = some (.lst vs) ∧ RepL K F xs vs
/-- how a value is held: 0 frozen, 1 an owned list of frozen items, 2 an owned list of owned lists, 3 to be read alone -/
def Sl (K : PySem.W.Frag) (F : Hp) (ω : Om) (H : Hp) : Nat → PV → V → Prop
  | 0, x, v => Rep K F x v
  | 3, x, v => Rv K F H x v
  | 1, x, v => ∃ p vs xs, x = .lst xs ∧ v = .ref p ∧ H p = some (.lst vs) ∧ ω p = some (p, none) ∧ RepL K F xs vs
  | 2, x, v => ∃ p vs xs, x = .lst xs ∧ v = .ref p ∧ H p = some (.lst vs) ∧ ω p = some (p, none) ∧ vs.length = xs.length ∧
      ∀ k y u, xs[k]? = some y → vs[k]? = some u → ∃ q ws ys, y = .lst ys ∧ u = .ref q ∧ H q = some (.lst ws) ∧ ω q = some (p, some k) ∧ RepL K F ys ws
  | _, _, _ => False
section
variable {K : PySem.W.Frag} {G : Gh} {F F' : Hp} {ω ω' : Om} {H H' : Hp}
theorem Sl.mono (l : Le F ω H F' ω' H') : ∀ {d : Nat} {x : PV} {v : V}, Sl K F ω H d x v → Sl K F' ω' H' d x v
  | 0, _, _, h => Rep.mono l.f h
  | 3, _, _, .inl h => .inl (Rep.mono l.f h)
  | 3, _, _, .inr ⟨a, vs, xs, e1, e2, h, r⟩ => .inr ⟨a, vs, xs, e1, e2, l.h _ _ h, r.mono l.f⟩
  | 1, _, _, ⟨p, vs, xs, e1, e2, h, o, r⟩ => ⟨p, vs, xs, e1, e2, l.h _ _ h, l.o _ _ o, r.mono l.f⟩
  | 2, _, _, ⟨p, vs, xs, e1, e2, h, o, n, r⟩ => ⟨p, vs, xs, e1, e2, l.h _ _ h, l.o _ _ o, n, fun k y u a b =>
      let ⟨q, ws, ys, f1, f2, f3, f4, f5⟩ := r k y u a b
      ⟨q, ws, ys, f1, f2, l.h _ _ f3, l.o _ _ f4, f5.mono l.f⟩⟩
  | _ + 4, _, _, h => h
/-- the addresses of an owned value -/
theorem Sl.top : ∀ {d : Nat} {x : PV} {v : V}, d = 1 ∨ d = 2 → Sl K F ω H d x v → ∃ p vs, v = .ref p ∧ ω p = some (p, none) ∧ H p = some (.lst vs)
  | 0, _, _, n, _ => by omega
  | 1, _, _, _, ⟨p, vs, xs, e1, e2, h, o, r⟩ => ⟨p, vs, e2, o, h⟩
  | 2, _, _, _, ⟨p, vs, xs, e1, e2, h, o, n, r⟩ => ⟨p, vs, e2, o, h⟩
  | _ + 3, _, _, n, _ => by omega

structure Rel (K : PySem.W.Frag) (G : Gh) (ds : List Nat) (F : Hp) (ω : Om) (env : Env) (σ : St) (H : Hp) : Prop where
  wd : Wd G F ω H
  sl : ∀ i x, env[i]? = some (some x) → ∃ v, σ[i]? = some (some v) ∧ Sl K F ω H (ds.getD i 0) x v
  ap : ∀ i j x y v, i ≠ j → (ds.getD i 0 = 1 ∨ ds.getD i 0 = 2) → (ds.getD j 0 = 1 ∨ ds.getD j 0 = 2) → env[i]? = some (some x) → env[j]? = some (some y) → σ[i]? = some (some v) → σ[j]? ≠ some (some v)
  ln : env.length = σ.length
theorem Rel.mono {ds : List Nat} {env : Env} {σ : St} (r : Rel K G ds F ω env σ H) (l : Le F ω H F' ω' H') (w : Wd G F' ω' H') : Rel K G ds F' ω' env σ H' :=
  ⟨w, fun i x e => let ⟨v, h1, h2⟩ := r.sl i x e; ⟨v, h1, h2.mono l⟩, r.ap, r.ln⟩
/-- a new object that is frozen -/
theorem Wd.frz (w : Wd G F ω H) {p : Addr} {o : HO} (hp : H p = none) : Wd G (upd F p o) ω (upd H p o) ∧ Le F ω H (upd F p o) ω (upd H p o) := by
  have hF : F p = none := w.f.free hp
  have h0 : G.H0 p = none := w.h0.free hp
  have sf : Same F (upd F p o) := fun b u e => by rw [upd_ne (ne_of_none e hF)]; exact e
  have sh : Same H (upd H p o) := fun b u e => by rw [upd_ne (ne_of_none e hp)]; exact e
  refine ⟨⟨w.h0.trans sh, w.f0.trans sf, fun b u e => ?_, fun a u u' e e' => ?_, fun q l e => ?_⟩, sf, fun _ _ e => e, sh⟩
  · by_cases hb : b = p
    · subst hb; rw [upd_same] at e ⊢; exact e
    · rw [upd_ne hb] at e ⊢; exact w.f b u e
  · by_cases hb : a = p
    · subst hb; rw [h0] at e'; cases e'
    · rw [upd_ne hb] at e; exact w.nw a u u' e e'
  · obtain ⟨h1, h2, u, h3⟩ := w.om q l e
    have hq : q ≠ p := ne_of_none h3 hp
    exact ⟨by rw [upd_ne hq]; exact h1, h2, u, by rw [upd_ne hq]; exact h3⟩
/-- a new list that is owned -/
theorem Wd.own (w : Wd G F ω H) {p : Addr} {vs : List V} (hp : H p = none) : Wd G F (fun q => if q = p then some (p, none) else ω q) (upd H p (.lst vs)) ∧ Le F ω H F (fun q => if q = p then some (p, none) else ω q) (upd H p (.lst vs)) := by
  have hF : F p = none := w.f.free hp
  have h0 : G.H0 p = none := w.h0.free hp
  have sh : Same H (upd H p (.lst vs)) := fun b u e => by rw [upd_ne (ne_of_none e hp)]; exact e
  refine ⟨⟨w.h0.trans sh, w.f0, w.f.trans sh, w.nw, fun q l e => ?_⟩, .refl F, fun q l e => ?_, sh⟩
  · by_cases hq : q = p
    · subst hq; exact ⟨hF, h0, vs, upd_same⟩
    · rw [if_neg hq] at e
      obtain ⟨h1, h2, u, h3⟩ := w.om q l e
      exact ⟨h1, h2, u, by rw [upd_ne hq]; exact h3⟩
  · obtain ⟨_, _, u, h3⟩ := w.om q l e
    have hq : q ≠ p := ne_of_none h3 hp
    show (if q = p then _ else _) = _
    rw [if_neg hq]; exact e
end

/-! ### judgements -/
structure Px where
  X : Cx
  W : WX
  G : Gh
  dr : Nat
/-- an exception that leaves an expression -/
def ExcW (P : Px) (c : Str) (σ : St) (H : Hp) : Prop := ∀ C H', P.X.mg c = some (.ref C) → Same H H' → P.W (.ref C) none σ H'
/-- .. a statement -/
def ExcS (P : Px) (c : Str) : Prop := ∀ C σ' H', P.X.mg c = some (.ref C) → Same P.G.H0 H' → P.W (.ref C) none σ' H'
theorem ExcW.mono {P : Px} {c : Str} {σ : St} {H H' : Hp} (h : ExcW P c σ H) (s : Same H H') : ExcW P c σ H' := fun C H2 m s2 => h C H2 m (s.trans s2)
theorem ExcS.w {P : Px} {c : Str} {σ : St} {H : Hp} (h : ExcS P c) (s : Same P.G.H0 H) : ExcW P c σ H := fun C H2 m s2 => h C σ H2 m (s.trans s2)
/-- what is wanted of a value -/
def Val (P : Px) (d : Nat) (F : Hp) (ω : Om) (H : Hp) (x : PV) (Q : VK) : Prop :=
  ∀ F' ω' H' v, Le F ω H F' ω' H' → Wd P.G F' ω' H' → Sl P.X.K F' ω' H' d x v → (d = 1 ∨ d = 2 → ∀ p, v = .ref p → H p = none) → Q v H'
def lift (P : Px) (ds : List Nat) (d : Nat) (f : Env → Rs PV) : TE := fun σ H Q => ∃ F ω env, Rel P.X.K P.G ds F ω env σ H ∧ (f env).wp (fun c => ExcW P c σ H) fun x => Val P d F ω H x Q
def liftT (P : Px) (ds : List Nat) (f : Env → Rs Bool) : TT := fun σ H Q => ∃ F ω env, Rel P.X.K P.G ds F ω env σ H ∧ (f env).wp (fun c => ExcW P c σ H) fun b => ∀ F' ω' H', Le F ω H F' ω' H' → Wd P.G F' ω' H' → Q b H'
def liftA (P : Px) (ds : List Nat) (f : Env → Rs (List PV)) : TA := fun σ H Q => ∃ F ω env, Rel P.X.K P.G ds F ω env σ H ∧ (f env).wp (fun c => ExcW P c σ H) fun xs => ∀ F' ω' H' vs, Le F ω H F' ω' H' → Wd P.G F' ω' H' → RepL P.X.K F' xs vs → Q vs H'
def QE (P : Px) (ds : List Nat) (d : Nat) (e : Expr) (f : Env → Rs PV) : Prop := PE P.X e (lift P ds d f)
def QT (P : Px) (ds : List Nat) (e : Expr) (f : Env → Rs Bool) : Prop := PT P.X e (liftT P ds f)
def QA (P : Px) (ds : List Nat) (es : List Expr) (f : Env → Rs (List PV)) : Prop := PA P.X es (liftA P ds f) ∧ ∀ env xs, f env = .ok xs → xs.length = es.length
inductive Out where
  | nx (env : Env) | rt (x : PV)
def SOk (P : Px) (ds : List Nat) (D : Ends) (F0 : Hp) : Out → Prop
  | .nx env => ∀ F ω σ H, Same F0 F → Rel P.X.K P.G ds F ω env σ H → D.nx σ H
  | .rt x => ∀ F ω H v, Wd P.G F ω H → Sl P.X.K F ω H P.dr x v → (P.dr = 1 ∨ P.dr = 2 → ∀ p, v = .ref p → P.G.H0 p = none) → D.rt v H
def liftS (P : Px) (ds ds' : List Nat) (f : Env → Rs Out) : TS := fun D σ H => ∃ F ω env, Rel P.X.K P.G ds F ω env σ H ∧ (f env).wp (ExcS P) (SOk P ds' D F)
def QS (P : Px) (ds : List Nat) (st : Stmt) (ds' : List Nat) (f : Env → Rs Out) : Prop := PS P.X st (liftS P ds ds' f)
def QB (P : Px) (ds : List Nat) (st : List Stmt) (ds' : List Nat) (f : Env → Rs Out) : Prop := PSs P.X st (liftS P ds ds' f)
section
variable {X : Cx} {e : Expr} {es : List Expr} {st : Stmt} {sts : List Stmt}
theorem PE.imp {t t' : TE} (h : PE X e t) (i : ∀ σ H Q, t' σ H Q → t σ H Q) : PE X e t' := ⟨fun p s σ H Q I q => h.run p s σ H Q I (i _ _ _ q)⟩
theorem PT.imp {t t' : TT} (h : PT X e t) (i : ∀ σ H Q, t' σ H Q → t σ H Q) : PT X e t' := ⟨fun p s σ H Q I q => h.run p s σ H Q I (i _ _ _ q)⟩
theorem PW.imp {t t' : TT} (h : PW X e t) (i : ∀ σ H Q, t' σ H Q → t σ H Q) : PW X e t' := ⟨fun wh p s σ H Q I q => h.run wh p s σ H Q I (i _ _ _ q)⟩
theorem PA.imp {t t' : TA} (h : PA X es t) (i : ∀ σ H Q, t' σ H Q → t σ H Q) : PA X es t' := ⟨fun pos p s σ H Q I q => h.run pos p s σ H Q I (i _ _ _ q)⟩
theorem PS.imp {t t' : TS} (h : PS X st t) (i : ∀ D σ H, t' D σ H → t D σ H) : PS X st t' := ⟨fun p s σ H D I q => h.run p s σ H D I (i _ _ _ q)⟩
theorem PSs.imp {t t' : TS} (h : PSs X sts t) (i : ∀ D σ H, t' D σ H → t D σ H) : PSs X sts t' := ⟨fun p s σ H D I q => h.run p s σ H D I (i _ _ _ q)⟩
end
/-- how a lifted reading is met -/
theorem lift.to {P : Px} {ds : List Nat} {d : Nat} {f : Env → Rs PV} {F : Hp} {ω : Om} {env : Env} {σ : St} {H : Hp} {Q : VK} (r : Rel P.X.K P.G ds F ω env σ H) {E : Str → Prop} {R : PV → Prop} (h : (f env).wp E R)
    (hE : ∀ c, E c → ExcW P c σ H) (hQ : ∀ x, R x → Val P d F ω H x Q) : lift P ds d f σ H Q := ⟨F, ω, env, r, Rs.wp_mono h hE hQ⟩
theorem liftT.to {P : Px} {ds : List Nat} {f : Env → Rs Bool} {F : Hp} {ω : Om} {env : Env} {σ : St} {H : Hp} {Q : Bool → Hp → Prop} (r : Rel P.X.K P.G ds F ω env σ H) {E : Str → Prop} {R : Bool → Prop} (h : (f env).wp E R)
    (hE : ∀ c, E c → ExcW P c σ H) (hQ : ∀ x, R x → ∀ F' ω' H', Le F ω H F' ω' H' → Wd P.G F' ω' H' → Q x H') : liftT P ds f σ H Q := ⟨F, ω, env, r, Rs.wp_mono h hE hQ⟩
theorem liftA.to {P : Px} {ds : List Nat} {f : Env → Rs (List PV)} {F : Hp} {ω : Om} {env : Env} {σ : St} {H : Hp} {Q : List V → Hp → Prop} (r : Rel P.X.K P.G ds F ω env σ H) {E : Str → Prop} {R : List PV → Prop} (h : (f env).wp E R)
    (hE : ∀ c, E c → ExcW P c σ H) (hQ : ∀ xs, R xs → ∀ F' ω' H' vs, Le F ω H F' ω' H' → Wd P.G F' ω' H' → RepL P.X.K F' xs vs → Q vs H') : liftA P ds f σ H Q := ⟨F, ω, env, r, Rs.wp_mono h hE hQ⟩
theorem Val.mono {P : Px} {d : Nat} {F F1 : Hp} {ω ω1 : Om} {H H1 : Hp} {x : PV} {Q : VK} (h : Val P d F ω H x Q) (l : Le F ω H F1 ω1 H1) : Val P d F1 ω1 H1 x Q :=
  fun F' ω' H' v l' w s fr => h F' ω' H' v (l.trans l') w s fun n p e => l.h.free (fr n p e)

/-! ### expressions -/
section
variable {P : Px} {ds : List Nat} {pos : Pos}
@[simp] def eV (i : Nat) (env : Env) : Rs PV := match env[i]? with
  | some (some x) => .ok x
  | _ => .stuck
@[simp] def eC (x : PV) (_ : Env) : Rs PV := .ok x
/-- a name whose slot is frozen (or one of a written number) -/
theorem qe_v (i : Nat) {x : Str} (hd : ds.getD i 0 = 0 := by rfl) (hN : P.X.N[i]? = some x := by rfl) (hv : Vis P.X.env.scope x := by first | exact Or.inl rfl | exact Or.inr (Or.inl rfl) | exact Or.inr (Or.inr rfl))
    (hdb : (x == ("__debug__" : Str)) = false := by decide) (hcd : (x == ("__classdict__" : Str)) = false := by decide) : QE P ds 0 (.Name x pos) (eV i) :=
  PE.imp (pe_var hN hv hdb hcd) fun σ H Q ⟨F, ω, env, r, h⟩ => by
    unfold eV at h
    split at h
    · rename_i x e
      obtain ⟨v, e1, s⟩ := r.sl i x e
      rw [hd] at s
      exact ⟨v, e1, h F ω H v (.refl F ω H) r.wd s (by omega)⟩
    · exact h.elim
/-- .. moved out of an owned slot (the slot is not read again) -/
theorem Val.ok0 {F : Hp} {ω : Om} {H : Hp} {x : PV} {Q : VK} (h : Val P 0 F ω H x Q) (w : Wd P.G F ω H) {v : V} (r : Rep P.X.K F x v) : Q v H := h F ω H v (.refl F ω H) w r (by omega)
theorem qe_int {i : Int} {j} : QE P ds 0 (.Constant (.int i) j pos) (eC (.int i)) := PE.imp pe_int fun σ H Q ⟨F, ω, env, r, h⟩ => h.ok0 r.wd rfl
theorem qe_bl {b : Bool} {j} : QE P ds 0 (.Constant (.bool b) j pos) (eC (.bl b)) := PE.imp pe_bl fun σ H Q ⟨F, ω, env, r, h⟩ => h.ok0 r.wd rfl
theorem qe_non {j} : QE P ds 0 (.Constant .none j pos) (eC .non) := PE.imp pe_non fun σ H Q ⟨F, ω, env, r, h⟩ => h.ok0 r.wd rfl
theorem qe_str {x : Str} {j} : QE P ds 0 (.Constant (.str x) j pos) (eC (.str x)) := PE.imp pe_str fun σ H Q ⟨F, ω, env, r, h⟩ => h.ok0 r.wd rfl

/-- to be read -/
theorem qe_rd {e : Expr} {f : Env → Rs PV} (h : QE P ds 0 e f) : QE P ds 3 e f :=
  PE.imp h fun σ H Q ⟨F, ω, env, r, q⟩ => ⟨F, ω, env, r, Rs.wp_mono q (fun _ z => z) fun x hx F' ω' H' v l w s _ => hx F' ω' H' v l w (.inl s) (by omega)⟩
theorem qe_rdv (i : Nat) {x : Str} (hd : ds.getD i 0 = 1 := by rfl) (hN : P.X.N[i]? = some x := by rfl) (hv : Vis P.X.env.scope x := by first | exact Or.inl rfl | exact Or.inr (Or.inl rfl) | exact Or.inr (Or.inr rfl))
    (hdb : (x == ("__debug__" : Str)) = false := by decide) (hcd : (x == ("__classdict__" : Str)) = false := by decide) : QE P ds 3 (.Name x pos) (eV i) :=
  PE.imp (pe_var hN hv hdb hcd) fun σ H Q ⟨F, ω, env, r, h⟩ => by
    unfold eV at h
    split at h
    · rename_i x e
      obtain ⟨v, e1, s⟩ := r.sl i x e
      rw [hd] at s
      obtain ⟨p, vs, xs, q1, q2, q3, q4, q5⟩ := s
      exact ⟨v, e1, h F ω H v (.refl F ω H) r.wd (.inr ⟨p, vs, xs, q1, q2, q3, q5⟩) (by omega)⟩
    · exact h.elim
theorem Rv.mono {K : PySem.W.Frag} {F F' H H' : Hp} {x : PV} {v : V} (f : Same F F') (h : Same H H') (r : Rv K F H x v) : Rv K F' H' x v := by
  rcases r with r | ⟨a, vs, xs, e1, e2, e3, r⟩
  · exact .inl (r.mono f)
  · exact .inr ⟨a, vs, xs, e1, e2, h _ _ e3, r.mono f⟩

/-! ### operations on values -/
/-- o says what f does with readable values -/
def Op2 (P : Px) (f : Value → Value → Sem Value) (d : Nat) (o : PV → PV → Rs PV) : Prop :=
  OpR P.X f fun x y H Q => ∃ F ω a b, Wd P.G F ω H ∧ Rv P.X.K F H a x ∧ Rv P.X.K F H b y ∧ (o a b).wp (fun _ => False) fun z => Val P d F ω H z Q
@[simp] def eOp (o : PV → PV → Rs PV) (fa fb : Env → Rs PV) (env : Env) : Rs PV := (fa env).bind fun x => (fb env).bind fun y => (o x y).noexc
theorem noexc_wp {α : Type} {r : Rs α} {E : Str → Prop} {Q : α → Prop} (h : r.noexc.wp E Q) : r.wp (fun _ => False) Q := by
  cases r with
  | stuck => exact h
  | exc c => exact h.elim
  | ok a => exact h
theorem bin_to {a b : Expr} {fa fb : Env → Rs PV} {g : PV → PV → Rs PV} {d : Nat} {F : Hp} {ω : Om} {env : Env} {σ : St} {H : Hp} {Q : VK} (r : Rel P.X.K P.G ds F ω env σ H)
    (h : ((fa env).bind fun x => (fb env).bind fun y => g x y).wp (fun c => ExcW P c σ H) fun x => Val P d F ω H x Q) {R : V → V → Hp → Prop}
    (k : ∀ F' ω' H' x y v u, Le F ω H F' ω' H' → Wd P.G F' ω' H' → Rv P.X.K F' H' x v → Rv P.X.K F' H' y u → (g x y).wp (fun c => ExcW P c σ H) (fun x => Val P d F ω H x Q) → R v u H') :
    lift P ds 3 fa σ H fun x H1 => lift P ds 3 fb σ H1 fun y H2 => R x y H2 := by
  refine lift.to r (Rs.wp_bind.mp h) (fun _ z => z) fun x hx F1 ω1 H1 v l1 w1 s1 _ => ?_
  refine lift.to (r.mono l1 w1) (Rs.wp_bind.mp hx) (fun c z => z.mono l1.h) fun y hy F2 ω2 H2 u l2 w2 s2 _ => ?_
  exact k F2 ω2 H2 x y v u (l1.trans l2) w2 (Rv.mono l2.f l2.h s1) s2 hy
theorem qe_op {op : Operator} {o : PV → PV → Rs PV} {d : Nat} {a b : Expr} {fa fb : Env → Rs PV} (ho : Op2 P (binaryOp op) d o) (ha : QE P ds 3 a fa) (hb : QE P ds 3 b fb) : QE P ds d (.BinOp a op b pos) (eOp o fa fb) :=
  PE.imp (pe_op ho ha hb) fun σ H Q ⟨F, ω, env, r, h⟩ => bin_to (a := a) (b := b) r h fun F' ω' H' x y v u l w s1 s2 q => ⟨F', ω', x, y, w, s1, s2, Rs.wp_mono (noexc_wp q) (fun _ z => z) fun z hz => hz.mono l⟩
theorem qe_cmp {op : CmpOp} {o : PV → PV → Rs PV} {a b : Expr} {fa fb : Env → Rs PV} (ho : Op2 P (compareOp op) 0 o) (ha : QE P ds 3 a fa) (hb : QE P ds 3 b fb) (hm : behindInMarks op b = false) : QE P ds 0 (.Compare a [op] [b] pos) (eOp o fa fb) :=
  PE.imp (pe_cmpR ho ha hb hm) fun σ H Q ⟨F, ω, env, r, h⟩ => bin_to (a := a) (b := b) r h fun F' ω' H' x y v u l w s1 s2 q => ⟨F', ω', x, y, w, s1, s2, Rs.wp_mono (noexc_wp q) (fun _ z => z) fun z hz => hz.mono l⟩
/-- a bool value as a test -/
def tst (x : PV) : Rs Bool := match x with
  | .bl b => .ok b
  | _ => .stuck
@[simp] theorem tst_r1 (b : Bool) : tst (.bl b) = .ok b := rfl
@[simp] def eT (f : Env → Rs PV) (env : Env) : Rs Bool := (f env).bind tst
theorem tst_val {F : Hp} {ω : Om} {H : Hp} {x : PV} {σ : St} {Q : Bool → Hp → Prop} (h : (tst x).wp (fun c => ExcW P c σ H) fun b => ∀ F' ω' H', Le F ω H F' ω' H' → Wd P.G F' ω' H' → Q b H') :
    Val P 0 F ω H x fun x H' => ∃ k, x = .bl k ∧ Q k H' := fun F' ω' H' v l w s _ => by
  cases x with
  | bl b => exact ⟨b, s, h F' ω' H' l w⟩
  | _ => exact h.elim
theorem qt_val {e : Expr} {f : Env → Rs PV} (h : QE P ds 0 e f) (he : ∀ whole, isTrue e P.X.env whole = (do let v ← whole; standAt e.pos; holding [v] (truthy v)) := by intro _; rfl) : QT P ds e (eT f) :=
  PT.imp (pt_val h he) fun σ H Q ⟨F, ω, env, r, q⟩ => lift.to r (Rs.wp_bind.mp q) (fun _ z => z) fun x hx => tst_val hx
theorem qt_cmp {op : CmpOp} {o : PV → PV → Rs PV} {a b : Expr} {fa fb : Env → Rs PV} (ho : Op2 P (compareOp op) 0 o) (ha : QE P ds 3 a fa) (hb : QE P ds 3 b fb) (hm : behindInMarks op b = false) : QT P ds (.Compare a [op] [b] pos) (eT (eOp o fa fb)) :=
  PT.imp (pt_cmpR ho ha hb hm) fun σ H Q ⟨F, ω, env, r, h⟩ => by
    refine bin_to (a := a) (b := b) (d := 0) (Q := fun x H' => ∃ k, x = .bl k ∧ Q k H') r (g := fun x y => (o x y).noexc) ?_ fun F' ω' H' x y v u l w s1 s2 q => ⟨F', ω', x, y, w, s1, s2, Rs.wp_mono (noexc_wp q) (fun _ z => z) fun z hz => hz.mono l⟩
    exact Rs.wp_mono (Rs.wp_bind.mp h) (fun _ z => z) fun x hx => tst_val hx
end
end Pw

namespace Pw
open PySem L2
@[simp] def lim : Nat := 16777216
theorem lim_eq : sizeLine = lim := by rw [sizeLine_eq]; rfl
section
variable {K : PySem.W.Frag} {G : Gh} {F : Hp} {ω : Om} {H : Hp} {v : V}
theorem Rv.lst {xs : List PV} (w : Wd G F ω H) (h : Rv K F H (.lst xs) v) : ∃ a vs, v = .ref a ∧ H a = some (.lst vs) ∧ RepL K F xs vs := by
  rcases h with ⟨a, vs, e, f, r⟩ | ⟨a, vs, ys, e, e2, f, r⟩
  · exact ⟨a, vs, e, w.f _ _ f, r⟩
  · cases e; exact ⟨a, vs, e2, f, r⟩
theorem Rv.rep {x : PV} (h : Rv K F H x v) (n : ∀ xs, x ≠ .lst xs := by intro xs q; cases q) : Rep K F x v := by
  rcases h with h | ⟨a, vs, ys, e, e2, f, r⟩
  · exact h
  · exact absurd e (n _)
theorem Rv.int {i : Int} (h : Rv K F H (.int i) v) : v = .int i := h.rep
theorem Rv.bl {i : Bool} (h : Rv K F H (.bl i) v) : v = .bl i := h.rep
theorem Rv.str {i : Str} (h : Rv K F H (.str i) v) : v = .str i := h.rep
theorem Rv.non (h : Rv K F H .non v) : v = .non := h.rep
theorem Rv.tup {xs : List PV} (w : Wd G F ω H) (h : Rv K F H (.tup xs) v) : ∃ a vs, v = .ref a ∧ TupAt K H a vs ∧ RepL K F xs vs := by
  obtain ⟨a, vs, e, f, r⟩ := h.rep
  exact ⟨a, vs, e, f.mono w.f, r⟩
theorem Rv.ro {ns : List Int} (w : Wd G F ω H) (h : Rv K F H (.ro ns) v) : ∃ a, v = .ref a ∧ SqL K H a (ns.map V.int) := by
  obtain ⟨a, e, f⟩ := h.rep
  exact ⟨a, e, w.f.seq f⟩
end
section
variable {P : Px} {F : Hp} {ω : Om} {H : Hp} {Q : VK}
theorem Val.of0 {x : PV} (h : Val P 0 F ω H x Q) (w : Wd P.G F ω H) {v : V} (r : Rep P.X.K F x v) : Q v H := h F ω H v (.refl F ω H) w r (by omega)
/-- a new list -/
theorem Val.newL {d : Nat} (hd : d ≤ 1) {xs : List PV} {vs : List V} (h : Val P d F ω H (.lst xs) Q) (w : Wd P.G F ω H) (r : RepL P.X.K F xs vs) : ∀ p, H p = none → Q (.ref p) (upd H p (.lst vs)) := fun p hp => by
  match d, hd with
  | 0, _ =>
    obtain ⟨w', l⟩ := w.frz (o := .lst vs) hp
    exact h _ _ _ _ l w' ⟨p, vs, rfl, upd_same, r.mono l.f⟩ (by omega)
  | 1, _ =>
    obtain ⟨w', l⟩ := w.own (vs := vs) hp
    exact h _ _ _ _ l w' ⟨p, vs, xs, rfl, rfl, upd_same, if_pos rfl, r⟩ fun _ q e => by cases e; exact hp
theorem Val.newT {xs : List PV} {vs : List V} (h : Val P 0 F ω H (.tup xs) Q) (w : Wd P.G F ω H) (r : RepL P.X.K F xs vs) : ∀ p, H p = none → Q (.ref p) (upd H p (.tup vs)) := fun p hp => by
  obtain ⟨w', l⟩ := w.frz (o := .tup vs) hp
  exact h _ _ _ _ l w' ⟨p, vs, rfl, .inl upd_same, r.mono l.f⟩ (by omega)
end

/-! ### arithmetic -/
def oAdd : PV → PV → Rs PV
  | .int i, .int j => .ok (.int (i + j))
  | .int i, .bl k => .ok (.int (i + if k then 1 else 0))
  | .lst xs, .lst ys => if xs.length + ys.length ≤ lim then .ok (.lst (xs ++ ys)) else .stuck
  | .str x, .str y => if x.length + y.length ≤ lim then .ok (.str (x ++ y)) else .stuck
  | _, _ => .stuck
@[simp] theorem oAdd_r1 (i : Int) (j : Int) : oAdd (.int i) (.int j) = .ok (.int (i + j)) := rfl
@[simp] theorem oAdd_r2 (i : Int) (k : Bool) : oAdd (.int i) (.bl k) = .ok (.int (i + if k then 1 else 0)) := rfl
@[simp] theorem oAdd_r3 (xs : List PV) (ys : List PV) : oAdd (.lst xs) (.lst ys) = if xs.length + ys.length ≤ lim then .ok (.lst (xs ++ ys)) else .stuck := rfl
@[simp] theorem oAdd_r4 (x : Str) (y : Str) : oAdd (.str x) (.str y) = if x.length + y.length ≤ lim then .ok (.str (x ++ y)) else .stuck := rfl
def oCat : PV → PV → Rs PV
  | .lst xs, .lst ys => if xs.length + ys.length ≤ lim then .ok (.lst (xs ++ ys)) else .stuck
  | _, _ => .stuck
@[simp] theorem oCat_r1 (xs : List PV) (ys : List PV) : oCat (.lst xs) (.lst ys) = if xs.length + ys.length ≤ lim then .ok (.lst (xs ++ ys)) else .stuck := rfl
def oSub : PV → PV → Rs PV
  | .int i, .int j => .ok (.int (i - j))
  | _, _ => .stuck
@[simp] theorem oSub_r1 (i : Int) (j : Int) : oSub (.int i) (.int j) = .ok (.int (i - j)) := rfl
/-- the bound of products: together below 100,000,000 bits -/
def mulOk (i j : Int) : Bool := decide (i.natAbs.log2 + j.natAbs.log2 < 100000000)
def oMul : PV → PV → Rs PV
  | .int i, .int j => if mulOk i j then .ok (.int (i * j)) else .stuck
  | .lst xs, .int k => if k ≤ (lim : Int) ∧ xs.length * k.toNat ≤ lim ∧ -(lim : Int) ≤ k then .ok (.lst (List.replicate k.toNat xs).flatten) else .stuck
  | _, _ => .stuck
@[simp] theorem oMul_r1 (i : Int) (j : Int) : oMul (.int i) (.int j) = if mulOk i j then .ok (.int (i * j)) else .stuck := rfl
@[simp] theorem oMul_r2 (xs : List PV) (k : Int) : oMul (.lst xs) (.int k) = if k ≤ (lim : Int) ∧ xs.length * k.toNat ≤ lim ∧ -(lim : Int) ≤ k then .ok (.lst (List.replicate k.toNat xs).flatten) else .stuck := rfl
def oRep : PV → PV → Rs PV
  | .lst xs, .int k => if k ≤ (lim : Int) ∧ xs.length * k.toNat ≤ lim ∧ -(lim : Int) ≤ k then .ok (.lst (List.replicate k.toNat xs).flatten) else .stuck
  | _, _ => .stuck
@[simp] theorem oRep_r1 (xs : List PV) (k : Int) : oRep (.lst xs) (.int k) = if k ≤ (lim : Int) ∧ xs.length * k.toNat ≤ lim ∧ -(lim : Int) ≤ k then .ok (.lst (List.replicate k.toNat xs).flatten) else .stuck := rfl
def oDiv : PV → PV → Rs PV
  | .int i, .int j => if 0 < j ∧ (j.natAbs < 1073741824 ∨ j.natAbs.log2 < 9000) then .ok (.int (i / j)) else .stuck
  | _, _ => .stuck
@[simp] theorem oDiv_r1 (i : Int) (j : Int) : oDiv (.int i) (.int j) = if 0 < j ∧ (j.natAbs < 1073741824 ∨ j.natAbs.log2 < 9000) then .ok (.int (i / j)) else .stuck := rfl
def oMod : PV → PV → Rs PV
  | .int i, .int j => if 0 < j then .ok (.int (i % j)) else .stuck
  | _, _ => .stuck
@[simp] theorem oMod_r1 (i : Int) (j : Int) : oMod (.int i) (.int j) = if 0 < j then .ok (.int (i % j)) else .stuck := rfl
def oPow : PV → PV → Rs PV
  | .int i, .int j => if 0 ≤ j ∧ j.natAbs ≤ 1000000 ∧ i.natAbs < 18446744073709551616 then .ok (.int (i ^ j.toNat)) else .stuck
  | _, _ => .stuck
@[simp] theorem oPow_r1 (i : Int) (j : Int) : oPow (.int i) (.int j) = if 0 ≤ j ∧ j.natAbs ≤ 1000000 ∧ i.natAbs < 18446744073709551616 then .ok (.int (i ^ j.toNat)) else .stuck := rfl
def oAnd : PV → PV → Rs PV
  | .int i, .int j => .ok (.int (Builtin.bitAnd i j))
  | _, _ => .stuck
@[simp] theorem oAnd_r1 (i : Int) (j : Int) : oAnd (.int i) (.int j) = .ok (.int (Builtin.bitAnd i j)) := rfl
def oOr : PV → PV → Rs PV
  | .int i, .int j => .ok (.int (Builtin.bitOr i j))
  | _, _ => .stuck
@[simp] theorem oOr_r1 (i : Int) (j : Int) : oOr (.int i) (.int j) = .ok (.int (Builtin.bitOr i j)) := rfl
def oShl : PV → PV → Rs PV
  | .int i, .int j => if 0 ≤ j ∧ j.natAbs ≤ 1000000 ∧ i.natAbs < 18446744073709551616 then .ok (.int (i * 2 ^ j.toNat)) else .stuck
  | _, _ => .stuck
@[simp] theorem oShl_r1 (i : Int) (j : Int) : oShl (.int i) (.int j) = if 0 ≤ j ∧ j.natAbs ≤ 1000000 ∧ i.natAbs < 18446744073709551616 then .ok (.int (i * 2 ^ j.toNat)) else .stuck := rfl
def ioAdd : PV → PV → Rs PV
  | .int i, .int j => .ok (.int (i + j))
  | _, _ => .stuck
@[simp] theorem ioAdd_r1 (i : Int) (j : Int) : ioAdd (.int i) (.int j) = .ok (.int (i + j)) := rfl
theorem mulOk_ok {i j : Int} (h : mulOk i j = true) : IntMulOk i j := by
  have b : ∀ x : Int, Builtin.Int.intBits x ≤ x.natAbs.log2 + 1 := fun x => by
    unfold Builtin.Int.intBits
    split <;> omega
  have h1 := b i
  have h2 := b j
  have h3 : i.natAbs.log2 + j.natAbs.log2 < 100000000 := of_decide_eq_true h
  have e : bitsLine = 134217728 := by decide
  unfold IntMulOk
  intro z
  rw [Bool.and_eq_true] at z
  have z2 := z.2
  unfold Builtin.Int.intTooBig at z2
  have z3 := of_decide_eq_true z2
  rw [e] at z3
  omega
section
variable {P : Px}
theorem ite_ok {α : Type} {c : Prop} [Decidable c] {a : α} {E : Str → Prop} {Q : α → Prop} (h : (if c then Rs.ok a else Rs.stuck).wp E Q) : c ∧ Q a := by
  by_cases hc : c
  · rw [if_pos hc] at h; exact ⟨hc, h⟩
  · rw [if_neg hc] at h; exact h.elim
theorem o_add : Op2 P (binaryOp .Add) 0 oAdd := by
  intro pins s σ H x y v u Q I rx ry ⟨F, ω, a, b, w, ra, rb, h⟩
  cases a <;> cases b <;> first | exact False.elim h | skip
  case int.bl i k =>
    refine op_add_ib pins s σ H x y v u Q I rx ry ⟨i, k, ra.int, rb.bl, ?_⟩
    have e : PyProof.Rows.b2i k = if k then 1 else 0 := by cases k <;> rfl
    rw [e]; exact Val.of0 h w rfl
  case int.int i j => exact op_add pins s σ H x y v u Q I rx ry ⟨i, j, ra.int, rb.int, Val.of0 h w rfl⟩
  case str.str i j =>
    obtain ⟨hz, h⟩ := ite_ok h
    exact op_add_str pins s σ H x y v u Q I rx ry ⟨i, j, ra.str, rb.str, by rw [lim_eq]; exact hz, Val.of0 h w rfl⟩
  case lst.lst i j =>
    obtain ⟨hz, h⟩ := ite_ok h
    obtain ⟨p, vs, e1, e2, r1⟩ := ra.lst w
    obtain ⟨q, us, f1, f2, r2⟩ := rb.lst w
    exact op_cat pins s σ H x y v u Q I rx ry ⟨p, q, vs, us, e1, f1, e2, f2, by rw [lim_eq, r1.length, r2.length]; exact hz, Val.newL (by omega) h w (r1.append r2)⟩
theorem o_cat {d : Nat} (hd : d ≤ 1) : Op2 P (binaryOp .Add) d oCat := by
  intro pins s σ H x y v u Q I rx ry ⟨F, ω, a, b, w, ra, rb, h⟩
  cases a <;> cases b <;> first | exact False.elim h | skip
  case lst.lst i j =>
    obtain ⟨hz, h⟩ := ite_ok h
    obtain ⟨p, vs, e1, e2, r1⟩ := ra.lst w
    obtain ⟨q, us, f1, f2, r2⟩ := rb.lst w
    exact op_cat pins s σ H x y v u Q I rx ry ⟨p, q, vs, us, e1, f1, e2, f2, by rw [lim_eq, r1.length, r2.length]; exact hz, Val.newL hd h w (r1.append r2)⟩
theorem o_sub : Op2 P (binaryOp .Sub) 0 oSub := by
  intro pins s σ H x y v u Q I rx ry ⟨F, ω, a, b, w, ra, rb, h⟩
  cases a <;> cases b <;> first | exact False.elim h | skip
  case int.int i j => exact op_sub pins s σ H x y v u Q I rx ry ⟨i, j, ra.int, rb.int, Val.of0 h w rfl⟩
theorem op_mulX' {X : Cx} : OpR X (binaryOp .Mult) (rI (fun i j => mulOk i j = true) fun i j => .int (i * j)) := opI fun _ _ _ _ _ _ _ hc q => PyProof.Rows.mul_int q (mulOk_ok hc)
theorem rep_len {k : Int} {n m : Nat} (h : n * k.toNat ≤ m) {vs : List V} (e : vs.length = n) : vs.length * k.toNat ≤ m := by rw [e]; exact h
theorem o_mul : Op2 P (binaryOp .Mult) 0 oMul := by
  intro pins s σ H x y v u Q I rx ry ⟨F, ω, a, b, w, ra, rb, h⟩
  cases a <;> cases b <;> first | exact False.elim h | skip
  case int.int i j =>
    obtain ⟨hz, h⟩ := ite_ok h
    exact op_mulX' pins s σ H x y v u Q I rx ry ⟨i, j, ra.int, rb.int, hz, Val.of0 h w rfl⟩
  case lst.int i k =>
    obtain ⟨⟨h1, h2, h3⟩, h⟩ := ite_ok h
    obtain ⟨p, vs, e1, e2, r1⟩ := ra.lst w
    have e : (lim : Int) = 16777216 := rfl
    exact op_rep pins s σ H x y v u Q I rx ry ⟨p, k, vs, e1, rb.int, e2, by omega, by omega, by rw [lim_eq]; exact rep_len h2 r1.length, Val.newL (by omega) h w (r1.rep _)⟩
theorem o_rep {d : Nat} (hd : d ≤ 1) : Op2 P (binaryOp .Mult) d oRep := by
  intro pins s σ H x y v u Q I rx ry ⟨F, ω, a, b, w, ra, rb, h⟩
  cases a <;> cases b <;> first | exact False.elim h | skip
  case lst.int i k =>
    obtain ⟨⟨h1, h2, h3⟩, h⟩ := ite_ok h
    obtain ⟨p, vs, e1, e2, r1⟩ := ra.lst w
    have e : (lim : Int) = 16777216 := rfl
    exact op_rep pins s σ H x y v u Q I rx ry ⟨p, k, vs, e1, rb.int, e2, by omega, by omega, by rw [lim_eq]; exact rep_len h2 r1.length, Val.newL hd h w (r1.rep _)⟩
theorem o_div : Op2 P (binaryOp .FloorDiv) 0 oDiv := by
  intro pins s σ H x y v u Q I rx ry ⟨F, ω, a, b, w, ra, rb, h⟩
  cases a <;> cases b <;> first | exact False.elim h | skip
  case int.int i j =>
    obtain ⟨hz, h⟩ := ite_ok h
    have hz' : 0 < j ∧ j.natAbs.log2 < 9000 := ⟨hz.1, hz.2.elim (fun hs => Nat.lt_trans ((Nat.log2_lt (by omega)).mpr (show j.natAbs < 2 ^ 30 from hs)) (by omega)) id⟩
    exact op_fdivW pins s σ H x y v u Q I rx ry ⟨i, j, ra.int, rb.int, hz', Val.of0 h w rfl⟩
theorem o_mod : Op2 P (binaryOp .Mod) 0 oMod := by
  intro pins s σ H x y v u Q I rx ry ⟨F, ω, a, b, w, ra, rb, h⟩
  cases a <;> cases b <;> first | exact False.elim h | skip
  case int.int i j =>
    obtain ⟨hz, h⟩ := ite_ok h
    exact op_mod pins s σ H x y v u Q I rx ry ⟨i, j, ra.int, rb.int, hz, Val.of0 h w rfl⟩
theorem o_pow : Op2 P (binaryOp .Pow) 0 oPow := by
  intro pins s σ H x y v u Q I rx ry ⟨F, ω, a, b, w, ra, rb, h⟩
  cases a <;> cases b <;> first | exact False.elim h | skip
  case int.int i j =>
    obtain ⟨hz, h⟩ := ite_ok h
    exact op_pow pins s σ H x y v u Q I rx ry ⟨i, j, ra.int, rb.int, ⟨hz.1, by omega, hz.2.2⟩, Val.of0 h w rfl⟩
theorem o_and : Op2 P (binaryOp .BitAnd) 0 oAnd := by
  intro pins s σ H x y v u Q I rx ry ⟨F, ω, a, b, w, ra, rb, h⟩
  cases a <;> cases b <;> first | exact False.elim h | skip
  case int.int i j => exact op_and pins s σ H x y v u Q I rx ry ⟨i, j, ra.int, rb.int, Val.of0 h w rfl⟩
theorem o_or : Op2 P (binaryOp .BitOr) 0 oOr := by
  intro pins s σ H x y v u Q I rx ry ⟨F, ω, a, b, w, ra, rb, h⟩
  cases a <;> cases b <;> first | exact False.elim h | skip
  case int.int i j => exact op_or pins s σ H x y v u Q I rx ry ⟨i, j, ra.int, rb.int, Val.of0 h w rfl⟩
theorem o_shl : Op2 P (binaryOp .LShift) 0 oShl := by
  intro pins s σ H x y v u Q I rx ry ⟨F, ω, a, b, w, ra, rb, h⟩
  cases a <;> cases b <;> first | exact False.elim h | skip
  case int.int i j =>
    obtain ⟨hz, h⟩ := ite_ok h
    exact op_shl pins s σ H x y v u Q I rx ry ⟨i, j, ra.int, rb.int, ⟨hz.1, by omega, hz.2.2⟩, Val.of0 h w rfl⟩

/-! ### in place -/
theorem io_add : Op2 P (inplaceOp .Add) 0 ioAdd := by
  intro pins s σ H x y v u Q I rx ry ⟨F, ω, a, b, w, ra, rb, h⟩
  cases a <;> cases b <;> first | exact False.elim h | skip
  case int.int i j => exact iop_add pins s σ H x y v u Q I rx ry ⟨i, j, ra.int, rb.int, Val.of0 h w rfl⟩
theorem io_sub : Op2 P (inplaceOp .Sub) 0 oSub := by
  intro pins s σ H x y v u Q I rx ry ⟨F, ω, a, b, w, ra, rb, h⟩
  cases a <;> cases b <;> first | exact False.elim h | skip
  case int.int i j => exact iop_sub pins s σ H x y v u Q I rx ry ⟨i, j, ra.int, rb.int, Val.of0 h w rfl⟩

/-! ### comparisons -/
def oLt : PV → PV → Rs PV
  | .int i, .int j => .ok (.bl (decide (i < j)))
  | _, _ => .stuck
@[simp] theorem oLt_r1 (i : Int) (j : Int) : oLt (.int i) (.int j) = .ok (.bl (decide (i < j))) := rfl
def oLe : PV → PV → Rs PV
  | .int i, .int j => .ok (.bl (decide (i ≤ j)))
  | _, _ => .stuck
@[simp] theorem oLe_r1 (i : Int) (j : Int) : oLe (.int i) (.int j) = .ok (.bl (decide (i ≤ j))) := rfl
def oGt : PV → PV → Rs PV
  | .int i, .int j => .ok (.bl (decide (j < i)))
  | _, _ => .stuck
@[simp] theorem oGt_r1 (i : Int) (j : Int) : oGt (.int i) (.int j) = .ok (.bl (decide (j < i))) := rfl
def oGe : PV → PV → Rs PV
  | .int i, .int j => .ok (.bl (decide (j ≤ i)))
  | _, _ => .stuck
@[simp] theorem oGe_r1 (i : Int) (j : Int) : oGe (.int i) (.int j) = .ok (.bl (decide (j ≤ i))) := rfl
theorem o_lt : Op2 P (compareOp .Lt) 0 oLt := by
  intro pins s σ H x y v u Q I rx ry ⟨F, ω, a, b, w, ra, rb, h⟩
  cases a <;> cases b <;> first | exact False.elim h | skip
  case int.int i j => exact op_lt pins s σ H x y v u Q I rx ry ⟨i, j, ra.int, rb.int, Val.of0 h w rfl⟩
theorem o_le : Op2 P (compareOp .LtE) 0 oLe := by
  intro pins s σ H x y v u Q I rx ry ⟨F, ω, a, b, w, ra, rb, h⟩
  cases a <;> cases b <;> first | exact False.elim h | skip
  case int.int i j => exact op_le pins s σ H x y v u Q I rx ry ⟨i, j, ra.int, rb.int, Val.of0 h w rfl⟩
theorem o_gt : Op2 P (compareOp .Gt) 0 oGt := by
  intro pins s σ H x y v u Q I rx ry ⟨F, ω, a, b, w, ra, rb, h⟩
  cases a <;> cases b <;> first | exact False.elim h | skip
  case int.int i j => exact op_gt pins s σ H x y v u Q I rx ry ⟨i, j, ra.int, rb.int, Val.of0 h w rfl⟩
theorem o_ge : Op2 P (compareOp .GtE) 0 oGe := by
  intro pins s σ H x y v u Q I rx ry ⟨F, ω, a, b, w, ra, rb, h⟩
  cases a <;> cases b <;> first | exact False.elim h | skip
  case int.int i j => exact op_ge pins s σ H x y v u Q I rx ry ⟨i, j, ra.int, rb.int, Val.of0 h w rfl⟩
end
/-! as data -/
mutual
def toD : PV → PyData
  | .non => .none
  | .bl b => .bool b
  | .int i => .int i
  | .str x => .str x
  | .lst xs => .list (toDs xs)
  | .tup xs => .tuple (toDs xs)
  | .ro ns => .list (ns.map PyData.int)
def toDs : List PV → List PyData
  | [] => []
  | x :: xs => toD x :: toDs xs
end
section
variable {K : PySem.W.Frag} {F H : Hp}
theorem dp_ints : ∀ ns : List Int, DpAll K H (ns.map V.int) (ns.map PyData.int)
  | [] => .nil
  | n :: ns => .cons (.int n) (dp_ints ns)
mutual
theorem dp_of (f : Same F H) : ∀ {x : PV} {v : V}, Rep K F x v → Dp K H v (toD x)
  | .non, v, h => by rw [show v = .non from h]; exact .non
  | .bl b, v, h => by rw [show v = .bl b from h]; exact .bl b
  | .int i, v, h => by rw [show v = .int i from h]; exact .int i
  | .str x, v, h => by rw [show v = .str x from h]; exact .str x
  | .lst xs, _, ⟨a, vs, e, q, r⟩ => by subst e; exact .lst (SqL.of (f _ _ q)) (dps_of f r)
  | .tup xs, _, ⟨a, vs, e, q, r⟩ => by subst e; exact .tup (q.mono f).sq (dps_of f r)
  | .ro ns, _, ⟨a, e, q⟩ => by subst e; exact .lst (f.seq q) (dp_ints ns)
theorem dps_of (f : Same F H) : ∀ {xs : List PV} {vs : List V}, RepL K F xs vs → DpAll K H vs (toDs xs)
  | [], vs, h => by rw [show vs = [] from h]; exact .nil
  | x :: xs, _, ⟨v, r, e, p, q⟩ => by subst e; exact .cons (dp_of f p) (dps_of f q)
end
theorem dp_rv (f : Same F H) {x : PV} {v : V} (h : Rv K F H x v) : Dp K H v (toD x) := by
  rcases h with h | ⟨a, vs, xs, e, e2, q, r⟩
  · exact dp_of f h
  · subst e e2; exact .lst (SqL.of q) (dps_of f r)
end
def shp (x : PV) : Bool := SeqAt.shaped (toD x)
def peq (x y : PV) : Bool := PyData.eqv (toD x) (toD y)
@[simp] def oEq (x y : PV) : Rs PV := if shp x = true ∧ shp y = true then .ok (.bl (peq x y)) else .stuck
@[simp] def oNe (x y : PV) : Rs PV := if shp x = true ∧ shp y = true then .ok (.bl (!peq x y)) else .stuck
def oIs (x y : PV) : Rs PV := match x, y with
  | .bl a, .bl b => .ok (.bl (decide (a = b)))
  | .non, .non => .ok (.bl true)
  | .int _, .non | .bl _, .non | .str _, .non | .lst _, .non | .tup _, .non | .ro _, .non => .ok (.bl false)
  | _, _ => .stuck
@[simp] theorem oIs_r1 (a : Bool) (b : Bool) : oIs (.bl a) (.bl b) = .ok (.bl (decide (a = b))) := rfl
@[simp] theorem oIs_r2 : oIs (.non) (.non) = .ok (.bl true) := rfl
@[simp] theorem oIs_r3 (w1 : Int) : oIs (.int w1) (.non) = .ok (.bl false) := rfl
@[simp] theorem oIs_r4 (w2 : Bool) : oIs (.bl w2) (.non) = .ok (.bl false) := rfl
@[simp] theorem oIs_r5 (w3 : Str) : oIs (.str w3) (.non) = .ok (.bl false) := rfl
@[simp] theorem oIs_r6 (w4 : List PV) : oIs (.lst w4) (.non) = .ok (.bl false) := rfl
@[simp] theorem oIs_r7 (w5 : List PV) : oIs (.tup w5) (.non) = .ok (.bl false) := rfl
@[simp] theorem oIs_r8 (w6 : List Int) : oIs (.ro w6) (.non) = .ok (.bl false) := rfl
def oIsNot (x y : PV) : Rs PV := match x, y with
  | .bl a, .bl b => .ok (.bl (!decide (a = b)))
  | .non, .non => .ok (.bl false)
  | .int _, .non | .bl _, .non | .str _, .non | .lst _, .non | .tup _, .non | .ro _, .non => .ok (.bl true)
  | _, _ => .stuck
@[simp] theorem oIsNot_r1 (a : Bool) (b : Bool) : oIsNot (.bl a) (.bl b) = .ok (.bl (!decide (a = b))) := rfl
@[simp] theorem oIsNot_r2 : oIsNot (.non) (.non) = .ok (.bl false) := rfl
@[simp] theorem oIsNot_r3 (w1 : Int) : oIsNot (.int w1) (.non) = .ok (.bl true) := rfl
@[simp] theorem oIsNot_r4 (w2 : Bool) : oIsNot (.bl w2) (.non) = .ok (.bl true) := rfl
@[simp] theorem oIsNot_r5 (w3 : Str) : oIsNot (.str w3) (.non) = .ok (.bl true) := rfl
@[simp] theorem oIsNot_r6 (w4 : List PV) : oIsNot (.lst w4) (.non) = .ok (.bl true) := rfl
@[simp] theorem oIsNot_r7 (w5 : List PV) : oIsNot (.tup w5) (.non) = .ok (.bl true) := rfl
@[simp] theorem oIsNot_r8 (w6 : List Int) : oIsNot (.ro w6) (.non) = .ok (.bl true) := rfl
@[simp] def oIn (x y : PV) : Rs PV := match y with
  | .lst ys => if shp x = true ∧ shp (.lst ys) = true then .ok (.bl (ys.any fun z => peq z x)) else .stuck
  | _ => .stuck
@[simp] def oNotIn (x y : PV) : Rs PV := match y with
  | .lst ys => if shp x = true ∧ shp (.lst ys) = true then .ok (.bl (!ys.any fun z => peq z x)) else .stuck
  | _ => .stuck
theorem any_toDs (p : PyData → Bool) : ∀ ys : List PV, (toDs ys).any p = ys.any fun z => p (toD z)
  | [] => rfl
  | y :: ys => by
    rw [toDs, List.any_cons, List.any_cons, any_toDs p ys]
section
variable {P : Px}
theorem o_eq (hu : P.X.A.units + 64 < cLine) : Op2 P (compareOp .Eq) 0 oEq := by
  intro pins s σ H x y v u Q I rx ry ⟨F, ω, a, b, w, ra, rb, h⟩
  obtain ⟨⟨h1, h2⟩, h⟩ := ite_ok h
  exact op_eqD hu pins s σ H x y v u Q I rx ry ⟨toD a, toD b, dp_rv w.f ra, dp_rv w.f rb, h1, h2, Val.of0 h w rfl⟩
theorem o_ne (hu : P.X.A.units + 64 < cLine) : Op2 P (compareOp .NotEq) 0 oNe := by
  intro pins s σ H x y v u Q I rx ry ⟨F, ω, a, b, w, ra, rb, h⟩
  obtain ⟨⟨h1, h2⟩, h⟩ := ite_ok h
  exact op_neD hu pins s σ H x y v u Q I rx ry ⟨toD a, toD b, dp_rv w.f ra, dp_rv w.f rb, h1, h2, Val.of0 h w rfl⟩
theorem rv_ref {K : PySem.W.Frag} {F H : Hp} {x : PV} {v : V} (h : Rv K F H x v) (n : (∃ xs, x = .lst xs) ∨ (∃ xs, x = .tup xs) ∨ ∃ ns, x = .ro ns) : ∃ a, v = .ref a := by
  rcases h with h | ⟨a, vs, xs, e, e2, q, r⟩
  · rcases n with ⟨xs, rfl⟩ | ⟨xs, rfl⟩ | ⟨xs, rfl⟩
    · obtain ⟨a, vs, e, _⟩ := h; exact ⟨a, e⟩
    · obtain ⟨a, vs, e, _⟩ := h; exact ⟨a, e⟩
    · obtain ⟨a, e, _⟩ := h; exact ⟨a, e⟩
  · exact ⟨a, e2⟩
theorem o_is : Op2 P (compareOp .Is) 0 oIs := by
  intro pins s σ H x y v u Q I rx ry ⟨F, ω, a, b, w, ra, rb, h⟩
  cases b with
  | non =>
    refine op_isN pins s σ H x y v u Q I rx ry ⟨rb.non, ?_⟩
    cases a with
    | non => rw [ra.non]; exact Val.of0 h w rfl
    | bl k => rw [ra.bl]; exact Val.of0 h w rfl
    | int k => rw [ra.int]; exact Val.of0 h w rfl
    | str k => rw [ra.str]; exact Val.of0 h w rfl
    | lst k => obtain ⟨q, e⟩ := rv_ref ra (.inl ⟨_, rfl⟩); rw [e]; exact Val.of0 h w rfl
    | tup k => obtain ⟨q, e⟩ := rv_ref ra (.inr (.inl ⟨_, rfl⟩)); rw [e]; exact Val.of0 h w rfl
    | ro k => obtain ⟨q, e⟩ := rv_ref ra (.inr (.inr ⟨_, rfl⟩)); rw [e]; exact Val.of0 h w rfl
  | bl k =>
    cases a with
    | bl j => exact op_is_bl pins s σ H x y v u Q I rx ry ⟨j, k, ra.bl, rb.bl, Val.of0 h w rfl⟩
    | _ => exact False.elim h
  | _ => cases a <;> exact False.elim h
theorem o_isnot : Op2 P (compareOp .IsNot) 0 oIsNot := by
  intro pins s σ H x y v u Q I rx ry ⟨F, ω, a, b, w, ra, rb, h⟩
  cases b with
  | non =>
    refine op_notN pins s σ H x y v u Q I rx ry ⟨rb.non, ?_⟩
    cases a with
    | non => rw [ra.non]; exact Val.of0 h w rfl
    | bl k => rw [ra.bl]; exact Val.of0 h w rfl
    | int k => rw [ra.int]; exact Val.of0 h w rfl
    | str k => rw [ra.str]; exact Val.of0 h w rfl
    | lst k => obtain ⟨q, e⟩ := rv_ref ra (.inl ⟨_, rfl⟩); rw [e]; exact Val.of0 h w rfl
    | tup k => obtain ⟨q, e⟩ := rv_ref ra (.inr (.inl ⟨_, rfl⟩)); rw [e]; exact Val.of0 h w rfl
    | ro k => obtain ⟨q, e⟩ := rv_ref ra (.inr (.inr ⟨_, rfl⟩)); rw [e]; exact Val.of0 h w rfl
  | bl k =>
    cases a with
    | bl j => exact op_isnot_bl pins s σ H x y v u Q I rx ry ⟨j, k, ra.bl, rb.bl, Val.of0 h w rfl⟩
    | _ => exact False.elim h
  | _ => cases a <;> exact False.elim h
theorem o_in (hu : P.X.A.units + 65 < cLine) : Op2 P (compareOp .In) 0 oIn := by
  intro pins s σ H x y v u Q I rx ry ⟨F, ω, a, b, w, ra, rb, h⟩
  cases b <;> first | exact False.elim h | skip
  obtain ⟨⟨h1, h2⟩, h⟩ := ite_ok h
  refine op_inD hu pins s σ H x y v u Q I rx ry ⟨toD a, _, dp_rv w.f ra, dp_rv w.f rb, h1, h2, ?_⟩
  rw [any_toDs]; exact Val.of0 h w rfl
theorem o_notin (hu : P.X.A.units + 65 < cLine) : Op2 P (compareOp .NotIn) 0 oNotIn := by
  intro pins s σ H x y v u Q I rx ry ⟨F, ω, a, b, w, ra, rb, h⟩
  cases b <;> first | exact False.elim h | skip
  obtain ⟨⟨h1, h2⟩, h⟩ := ite_ok h
  refine op_notInD hu pins s σ H x y v u Q I rx ry ⟨toD a, _, dp_rv w.f ra, dp_rv w.f rb, h1, h2, ?_⟩
  rw [any_toDs]; exact Val.of0 h w rfl
end
end Pw

namespace Pw
open PySem L2
/-! ### tests -/
section
variable {P : Px} {ds : List Nat} {pos : Pos} {a b c e : Expr} {rest es : List Expr}
def QW (P : Px) (ds : List Nat) (e : Expr) (f : Env → Rs Bool) : Prop := PW P.X e (liftT P ds f)
theorem QW.t {f : Env → Rs Bool} (h : QW P ds e f) : QT P ds e f := h.pt
@[simp] def tNotD (f : Env → Rs Bool) (env : Env) : Rs Bool := (f env).bind fun k => .ok (!k)
@[simp] def tAndD (f g : Env → Rs Bool) (env : Env) : Rs Bool := (f env).bind fun k => if k = true then g env else .ok false
@[simp] def tOrD (f g : Env → Rs Bool) (env : Env) : Rs Bool := (f env).bind fun k => if k = true then .ok true else g env
theorem qt_not {f : Env → Rs Bool} (h : QT P ds a f) : QT P ds (.UnaryOp .Not a pos) (tNotD f) :=
  PT.imp (pt_not h) fun σ H Q ⟨F, ω, env, r, q⟩ => liftT.to r (Rs.wp_bind.mp q) (fun _ z => z) fun k hk => hk
theorem qw_and1 {f : Env → Rs Bool} (h : QT P ds a f) : QW P ds (.BoolOp .And [a] pos) f := pw_and1 h
theorem qw_or1 {f : Env → Rs Bool} (h : QT P ds a f) : QW P ds (.BoolOp .Or [a] pos) f := pw_or1 h
theorem qw_and {f g : Env → Rs Bool} (h : QT P ds a f) (k : QW P ds (.BoolOp .And (b :: rest) pos) g) : QW P ds (.BoolOp .And (a :: b :: rest) pos) (tAndD f g) :=
  PW.imp (pw_and h k) fun σ H Q ⟨F, ω, env, r, q⟩ => liftT.to r (Rs.wp_bind.mp q) (fun _ z => z) fun k hk F' ω' H' l w => by
    cases k with
    | true =>
      rw [if_pos rfl] at hk ⊢
      exact liftT.to (r.mono l w) hk (fun c z => z.mono l.h) fun x hx F2 ω2 H2 l2 w2 => hx F2 ω2 H2 (l.trans l2) w2
    | false =>
      rw [if_neg Bool.false_ne_true] at hk ⊢
      exact hk F' ω' H' l w
theorem qw_or {f g : Env → Rs Bool} (h : QT P ds a f) (k : QW P ds (.BoolOp .Or (b :: rest) pos) g) : QW P ds (.BoolOp .Or (a :: b :: rest) pos) (tOrD f g) :=
  PW.imp (pw_or h k) fun σ H Q ⟨F, ω, env, r, q⟩ => liftT.to r (Rs.wp_bind.mp q) (fun _ z => z) fun k hk F' ω' H' l w => by
    cases k with
    | false =>
      rw [if_neg Bool.false_ne_true] at hk ⊢
      exact liftT.to (r.mono l w) hk (fun c z => z.mono l.h) fun x hx F2 ω2 H2 l2 w2 => hx F2 ω2 H2 (l.trans l2) w2
    | true =>
      rw [if_pos rfl] at hk ⊢
      exact hk F' ω' H' l w
/-! a value's truth -/
def tru : PV → Rs Bool
  | .non => .ok false
  | .bl b => .ok b
  | .int i => .ok (i != 0)
  | .str x => if x.length ≤ lim then .ok ((x.length : Int) != 0) else .stuck
  | .lst xs => .ok (!xs.isEmpty)
  | .tup xs => .ok (!xs.isEmpty)
  | .ro ns => .ok (!ns.isEmpty)
@[simp] theorem tru_r1 : tru (.non) = .ok false := rfl
@[simp] theorem tru_r2 (b : Bool) : tru (.bl b) = .ok b := rfl
@[simp] theorem tru_r3 (i : Int) : tru (.int i) = .ok (i != 0) := rfl
@[simp] theorem tru_r4 (x : Str) : tru (.str x) = if x.length ≤ lim then .ok ((x.length : Int) != 0) else .stuck := rfl
@[simp] theorem tru_r5 (xs : List PV) : tru (.lst xs) = .ok (!xs.isEmpty) := rfl
@[simp] theorem tru_r6 (xs : List PV) : tru (.tup xs) = .ok (!xs.isEmpty) := rfl
@[simp] theorem tru_r7 (ns : List Int) : tru (.ro ns) = .ok (!ns.isEmpty) := rfl
@[simp] def eTru (f : Env → Rs PV) (env : Env) : Rs Bool := (f env).bind tru
theorem empty_eq {K : PySem.W.Frag} {F : Hp} : ∀ {xs : List PV} {vs : List V}, RepL K F xs vs → vs.isEmpty = xs.isEmpty
  | [], vs, h => by rw [show vs = [] from h]; rfl
  | x :: xs, _, ⟨v, r, e, _, _⟩ => by rw [e]; rfl
theorem qt_tru {f : Env → Rs PV} (h : QE P ds 3 e f) (he : ∀ whole, isTrue e P.X.env whole = (do let v ← whole; standAt e.pos; holding [v] (truthy v)) := by intro _; rfl) : QT P ds e (eTru f) :=
  PT.imp (pt_truth h he) fun σ H Q ⟨F, ω, env, r, q⟩ => lift.to r (Rs.wp_bind.mp q) (fun _ z => z) fun x hx F' ω' H' v l w s _ => by
    have s : Rv P.X.K F' H' x v := s
    cases x with
    | non => rw [s.non]; exact ⟨_, rfl, hx F' ω' H' l w⟩
    | bl k => rw [s.bl]; exact ⟨_, rfl, hx F' ω' H' l w⟩
    | int k => rw [s.int]; exact ⟨_, rfl, hx F' ω' H' l w⟩
    | str k =>
      obtain ⟨hz, hx⟩ := ite_ok hx
      rw [s.str]; exact ⟨_, ⟨by rw [lim_eq]; exact hz, rfl⟩, hx F' ω' H' l w⟩
    | lst k =>
      obtain ⟨p, vs, e1, e2, rr⟩ := s.lst w
      rw [e1]; exact ⟨_, .inl ⟨vs, SqL.of e2, rfl⟩, by rw [empty_eq rr]; exact hx F' ω' H' l w⟩
    | tup k =>
      obtain ⟨p, vs, e1, e2, rr⟩ := s.tup w
      rw [e1]; exact ⟨_, .inr (.inl ⟨vs, e2.sq, rfl⟩), by rw [empty_eq rr]; exact hx F' ω' H' l w⟩
    | ro k =>
      obtain ⟨p, e1, e2⟩ := s.ro w
      rw [e1]; exact ⟨_, .inl ⟨_, e2, rfl⟩, by rw [show (k.map V.int).isEmpty = k.isEmpty by cases k <;> rfl]; exact hx F' ω' H' l w⟩

/-! ### and, or, not of bools as values; conditional expressions -/
@[simp] def eNot (f : Env → Rs PV) (env : Env) : Rs PV := (f env).bind fun x => match x with
  | .bl k => .ok (.bl (!k))
  | _ => .stuck
@[simp] def eAnd (f g : Env → Rs PV) (env : Env) : Rs PV := (f env).bind fun x => match x with
  | .bl k => if k = true then g env else .ok (.bl false)
  | _ => .stuck
@[simp] def eOr (f g : Env → Rs PV) (env : Env) : Rs PV := (f env).bind fun x => match x with
  | .bl k => if k = true then .ok (.bl true) else g env
  | _ => .stuck
theorem qe_not {f : Env → Rs PV} (h : QE P ds 0 a f) : QE P ds 0 (.UnaryOp .Not a pos) (eNot f) :=
  PE.imp (pe_not h) fun σ H Q ⟨F, ω, env, r, q⟩ => lift.to r (Rs.wp_bind.mp q) (fun _ z => z) fun x hx F' ω' H' v l w s _ => by
    cases x with
    | bl k => exact ⟨k, s, hx F' ω' H' _ l w rfl (by omega)⟩
    | _ => exact hx.elim
theorem qe_one {op} {d : Nat} {f : Env → Rs PV} (h : QE P ds d a f) : QE P ds d (.BoolOp op [a] pos) f := pe_one h
theorem qe_and {f g : Env → Rs PV} (h : QE P ds 0 a f) (k : QE P ds 0 (.BoolOp .And (b :: rest) pos) g) : QE P ds 0 (.BoolOp .And (a :: b :: rest) pos) (eAnd f g) :=
  PE.imp (pe_and h k) fun σ H Q ⟨F, ω, env, r, q⟩ => lift.to r (Rs.wp_bind.mp q) (fun _ z => z) fun x hx F' ω' H' v l w s _ => by
    cases x with
    | bl k =>
      refine ⟨k, s, ?_⟩
      cases k with
      | true =>
        rw [if_pos rfl] 
        exact lift.to (r.mono l w) (show (g env).wp _ _ from hx) (fun c z => z.mono l.h) fun x hx => hx.mono l
      | false =>
        rw [if_neg Bool.false_ne_true]
        exact hx F' ω' H' _ l w rfl (by omega)
    | _ => exact hx.elim
theorem qe_or {f g : Env → Rs PV} (h : QE P ds 0 a f) (k : QE P ds 0 (.BoolOp .Or (b :: rest) pos) g) : QE P ds 0 (.BoolOp .Or (a :: b :: rest) pos) (eOr f g) :=
  PE.imp (pe_or h k) fun σ H Q ⟨F, ω, env, r, q⟩ => lift.to r (Rs.wp_bind.mp q) (fun _ z => z) fun x hx F' ω' H' v l w s _ => by
    cases x with
    | bl k =>
      refine ⟨k, s, ?_⟩
      cases k with
      | false =>
        rw [if_neg Bool.false_ne_true]
        exact lift.to (r.mono l w) (show (g env).wp _ _ from hx) (fun c z => z.mono l.h) fun x hx => hx.mono l
      | true =>
        rw [if_pos rfl]
        exact hx F' ω' H' _ l w rfl (by omega)
    | _ => exact hx.elim
@[simp] def eIf (t : Env → Rs Bool) (f g : Env → Rs PV) (env : Env) : Rs PV := (t env).bind fun k => if k = true then f env else g env
theorem qe_if {d : Nat} {t : Env → Rs Bool} {f g : Env → Rs PV} (hc : QT P ds c t) (ha : QE P ds d a f) (hb : QE P ds d b g) : QE P ds d (.IfExp c a b pos) (eIf t f g) :=
  PE.imp (pe_ifExp hc ha hb) fun σ H Q ⟨F, ω, env, r, q⟩ => liftT.to r (Rs.wp_bind.mp q) (fun _ z => z) fun k hk F' ω' H' l w => by
    cases k with
    | true => rw [if_pos rfl] at hk ⊢; exact lift.to (r.mono l w) hk (fun c z => z.mono l.h) fun x hx => hx.mono l
    | false => rw [if_neg Bool.false_ne_true] at hk ⊢; exact lift.to (r.mono l w) hk (fun c z => z.mono l.h) fun x hx => hx.mono l
@[simp] def eNeg (f : Env → Rs PV) (env : Env) : Rs PV := (f env).bind fun x => match x with
  | .int i => .ok (.int (-i))
  | _ => .stuck
theorem qe_neg {f : Env → Rs PV} (h : QE P ds 0 a f) : QE P ds 0 (.UnaryOp .USub a pos) (eNeg f) :=
  PE.imp (pe_un un_neg h) fun σ H Q ⟨F, ω, env, r, q⟩ => lift.to r (Rs.wp_bind.mp q) (fun _ z => z) fun x hx F' ω' H' v l w s _ => by
    cases x with
    | int k => exact ⟨k, s, hx F' ω' H' _ l w rfl (by omega)⟩
    | _ => exact hx.elim
/-! chains -/
@[simp] def eChain (o o' : PV → PV → Rs PV) (fa fb fc : Env → Rs PV) (env : Env) : Rs PV := (fa env).bind fun x => (fb env).bind fun y => (o x y).noexc.bind fun z => (tst z).bind fun k => if k = true then (fc env).bind fun u => (o' y u).noexc else .ok (.bl false)
theorem chain_to {o o' : PV → PV → Rs PV} {fa fb fc : Env → Rs PV} {σ : St} {H : Hp} {Q : VK} {F : Hp} {ω : Om} {env : Env} (r : Rel P.X.K P.G ds F ω env σ H) (h : (eChain o o' fa fb fc env).wp (fun c => ExcW P c σ H) fun x => Val P 0 F ω H x Q) :
    tChain (fun x y H Q => ∃ F ω a b, Wd P.G F ω H ∧ Rv P.X.K F H a x ∧ Rv P.X.K F H b y ∧ (o a b).wp (fun _ => False) fun z => Val P 0 F ω H z Q) (fun x y H Q => ∃ F ω a b, Wd P.G F ω H ∧ Rv P.X.K F H a x ∧ Rv P.X.K F H b y ∧ (o' a b).wp (fun _ => False) fun z => Val P 0 F ω H z Q)
      (lift P ds 3 fa) (lift P ds 3 fb) (lift P ds 3 fc) σ H Q := by
  refine bin_to (a := .Constant .none 0 ⟨0, 0, 0, 0⟩) (b := .Constant .none 0 ⟨0, 0, 0, 0⟩) r h fun F1 ω1 H1 x y v u l w s1 s2 q => ⟨F1, ω1, x, y, w, s1, s2, Rs.wp_mono (noexc_wp' (Rs.wp_bind.mp q)) (fun _ z => z) fun z hz => ?_⟩
  intro F2 ω2 H2 v2 l2 w2 s3 _
  cases z with
  | bl k =>
    refine ⟨k, s3, ?_⟩
    have l3 := l.trans l2
    cases k with
    | true =>
      rw [if_pos rfl]
      refine lift.to (r.mono l3 w2) (Rs.wp_bind.mp (show ((fc env).bind fun u => (o' y u).noexc).wp _ _ from hz)) (fun c z => z.mono l3.h) fun u' hu F4 ω4 H4 v4 l4 w4 s4 _ => ?_
      exact ⟨F4, ω4, y, u', w4, Rv.mono (l2.trans l4).f (l2.trans l4).h s2, s4, Rs.wp_mono (noexc_wp hu) (fun _ z => z) fun z hz => hz.mono (l3.trans l4)⟩
    | false =>
      rw [if_neg Bool.false_ne_true]
      exact hz F2 ω2 H2 _ l3 w2 rfl (by omega)
  | _ => exact hz.elim
where
  noexc_wp' {α : Type} {r : Rs α} {E : Str → Prop} {Q : α → Prop} (h : r.noexc.wp E Q) : r.wp (fun _ => False) Q := noexc_wp h
theorem qe_chain {op op' : CmpOp} {o o' : PV → PV → Rs PV} {fa fb fc : Env → Rs PV} (ho : Op2 P (compareOp op) 0 o) (ho' : Op2 P (compareOp op') 0 o') (ha : QE P ds 3 a fa) (hb : QE P ds 3 b fb) (hc : QE P ds 3 c fc)
    (hm : lastMarks [op, op'] [b, c] = false := by with_unfolding_all rfl) : QE P ds 0 (.Compare a [op, op'] [b, c] pos) (eChain o o' fa fb fc) :=
  PE.imp (pe_chain ho ho' ha hb hc hm) fun σ H Q ⟨F, ω, env, r, h⟩ => chain_to r h
theorem qt_chain {op op' : CmpOp} {o o' : PV → PV → Rs PV} {fa fb fc : Env → Rs PV} (ho : Op2 P (compareOp op) 0 o) (ho' : Op2 P (compareOp op') 0 o') (ha : QE P ds 3 a fa) (hb : QE P ds 3 b fb) (hc : QE P ds 3 c fc)
    (hm : lastMarks [op, op'] [b, c] = false := by with_unfolding_all rfl) : QT P ds (.Compare a [op, op'] [b, c] pos) (eT (eChain o o' fa fb fc)) :=
  PT.imp (pt_chain ho ho' ha hb hc hm) fun σ H Q ⟨F, ω, env, r, h⟩ => chain_to r (Rs.wp_mono (Rs.wp_bind.mp h) (fun _ z => z) fun x hx => tst_val hx)

/-! ### argument lists, displays -/
@[simp] def aNil (_ : Env) : Rs (List PV) := .ok []
@[simp] def aCons (f : Env → Rs PV) (g : Env → Rs (List PV)) (env : Env) : Rs (List PV) := (f env).bind fun x => (g env).bind fun xs => .ok (x :: xs)
theorem aNil_len : ∀ env xs, aNil env = .ok xs → xs.length = ([] : List Expr).length := fun env xs h => by cases h; rfl
theorem aCons_len {f : Env → Rs PV} {g : Env → Rs (List PV)} (h : ∀ env xs, g env = .ok xs → xs.length = es.length) : ∀ env xs, aCons f g env = .ok xs → xs.length = (e :: es).length := fun env xs q => by
  unfold aCons at q
  cases h1 : f env with
  | stuck => rw [h1] at q; cases q
  | exc c => rw [h1] at q; cases q
  | ok x =>
    cases h2 : g env with
    | stuck => rw [h1, h2] at q; cases q
    | exc c => rw [h1, h2] at q; cases q
    | ok ys => rw [h1, h2] at q; cases q; rw [List.length_cons, List.length_cons, h env ys h2]
theorem qa_nil : QA P ds [] aNil := ⟨PA.imp pa_nil fun σ H Q ⟨F, ω, env, r, q⟩ => q F ω H [] (.refl F ω H) r.wd rfl, aNil_len⟩
theorem qa_cons {f : Env → Rs PV} {g : Env → Rs (List PV)} (ha : QE P ds 0 e f) (hr : QA P ds es g) (hs : starEach (e :: es) P.X.env = (false, eval e P.X.env) :: starEach es P.X.env := by rfl) : QA P ds (e :: es) (aCons f g) := ⟨
  PA.imp (pa_cons ha hr.1 hs) fun σ H Q ⟨F, ω, env, r, q⟩ => by
    refine lift.to r (Rs.wp_bind.mp q) (fun _ z => z) fun x hx F1 ω1 H1 v l1 w1 s1 _ => ?_
    refine liftA.to (r.mono l1 w1) (Rs.wp_bind.mp hx) (fun c z => z.mono l1.h) fun xs hxs F2 ω2 H2 vs l2 w2 s2 => ?_
    exact hxs F2 ω2 H2 (v :: vs) (l1.trans l2) w2 (RepL.cons (Rep.mono l2.f s1) s2), aCons_len hr.2⟩
def RvL (K : PySem.W.Frag) (F H : Hp) : List PV → List V → Prop
  | [], vs => vs = []
  | x :: xs, vs => ∃ v r, vs = v :: r ∧ Rv K F H x v ∧ RvL K F H xs r
theorem RvL.mono {K : PySem.W.Frag} {F F' H H' : Hp} (f : Same F F') (h : Same H H') : ∀ {xs : List PV} {vs : List V}, RvL K F H xs vs → RvL K F' H' xs vs
  | [], _, q => q
  | x :: xs, _, ⟨v, r, e, p, q⟩ => ⟨v, r, e, p.mono f h, q.mono f h⟩
/-- arguments to be read alone -/
def liftB (P : Px) (ds : List Nat) (f : Env → Rs (List PV)) : TA := fun σ H Q => ∃ F ω env, Rel P.X.K P.G ds F ω env σ H ∧ (f env).wp (fun c => ExcW P c σ H) fun xs => ∀ F' ω' H' vs, Le F ω H F' ω' H' → Wd P.G F' ω' H' → RvL P.X.K F' H' xs vs → Q vs H'
def QR (P : Px) (ds : List Nat) (es : List Expr) (f : Env → Rs (List PV)) : Prop := PA P.X es (liftB P ds f) ∧ ∀ env xs, f env = .ok xs → xs.length = es.length
theorem liftB.to {f : Env → Rs (List PV)} {F : Hp} {ω : Om} {env : Env} {σ : St} {H : Hp} {Q : List V → Hp → Prop} (r : Rel P.X.K P.G ds F ω env σ H) {E : Str → Prop} {R : List PV → Prop} (h : (f env).wp E R)
    (hE : ∀ c, E c → ExcW P c σ H) (hQ : ∀ xs, R xs → ∀ F' ω' H' vs, Le F ω H F' ω' H' → Wd P.G F' ω' H' → RvL P.X.K F' H' xs vs → Q vs H') : liftB P ds f σ H Q := ⟨F, ω, env, r, Rs.wp_mono h hE hQ⟩
theorem qr_nil : QR P ds [] aNil := ⟨PA.imp pa_nil fun σ H Q ⟨F, ω, env, r, q⟩ => q F ω H [] (.refl F ω H) r.wd rfl, aNil_len⟩
theorem qr_cons {f : Env → Rs PV} {g : Env → Rs (List PV)} (ha : QE P ds 3 e f) (hr : QR P ds es g) (hs : starEach (e :: es) P.X.env = (false, eval e P.X.env) :: starEach es P.X.env := by rfl) : QR P ds (e :: es) (aCons f g) := ⟨
  PA.imp (pa_cons ha hr.1 hs) fun σ H Q ⟨F, ω, env, r, q⟩ => by
    refine lift.to r (Rs.wp_bind.mp q) (fun _ z => z) fun x hx F1 ω1 H1 v l1 w1 s1 _ => ?_
    refine liftB.to (r.mono l1 w1) (Rs.wp_bind.mp hx) (fun c z => z.mono l1.h) fun xs hxs F2 ω2 H2 vs l2 w2 s2 => ?_
    exact hxs F2 ω2 H2 (v :: vs) (l1.trans l2) w2 ⟨v, vs, rfl, Rv.mono l2.f l2.h s1, s2⟩, aCons_len hr.2⟩
@[simp] def eTup (f : Env → Rs (List PV)) (env : Env) : Rs PV := (f env).bind fun xs => if xs.length ≤ lim then .ok (.tup xs) else .stuck
@[simp] def eLst (f : Env → Rs (List PV)) (env : Env) : Rs PV := (f env).bind fun xs => if xs.length ≤ lim then .ok (.lst xs) else .stuck
theorem qe_tup {k : Nat} {f : Env → Rs (List PV)} (h : QA P ds es f) : QE P ds 0 (.Tuple es k pos) (eTup f) :=
  PE.imp (pe_tup h.1) fun σ H Q ⟨F, ω, env, r, q⟩ => liftA.to r (Rs.wp_bind.mp q) (fun _ z => z) fun xs hx F' ω' H' vs l w s => by
    obtain ⟨hz, hx⟩ := ite_ok hx
    exact ⟨by rw [lim_eq, s.length]; exact hz, Val.newT (hx.mono l) w s⟩
theorem qe_lst {d : Nat} (hd : d ≤ 1) {f : Env → Rs (List PV)} (h : QA P ds es f) : QE P ds d (.List es pos) (eLst f) :=
  PE.imp (pe_lst h.1) fun σ H Q ⟨F, ω, env, r, q⟩ => liftA.to r (Rs.wp_bind.mp q) (fun _ z => z) fun xs hx F' ω' H' vs l w s => by
    obtain ⟨hz, hx⟩ := ite_ok hx
    exact ⟨by rw [lim_eq, s.length]; exact hz, Val.newL hd (hx.mono l) w s⟩

/-! ### items, slices -/
def oIx : PV → PV → Rs PV
  | .lst xs, .int i => .opt (atI xs i)
  | .tup xs, .int i => .opt (atI xs i)
  | .ro ns, .int i => .opt ((atI ns i).map PV.int)
  | .str z, .int i => if z.length ≤ lim then .opt ((atI z.cps.toList i).map fun c => .str ⟨#[c]⟩) else .stuck
  | _, _ => .stuck
@[simp] theorem oIx_r1 (xs : List PV) (i : Int) : oIx (.lst xs) (.int i) = .opt (atI xs i) := rfl
@[simp] theorem oIx_r2 (xs : List PV) (i : Int) : oIx (.tup xs) (.int i) = .opt (atI xs i) := rfl
@[simp] theorem oIx_r3 (ns : List Int) (i : Int) : oIx (.ro ns) (.int i) = .opt ((atI ns i).map PV.int) := rfl
@[simp] theorem oIx_r4 (z : Str) (i : Int) : oIx (.str z) (.int i) = if z.length ≤ lim then .opt ((atI z.cps.toList i).map fun c => .str ⟨#[c]⟩) else .stuck := rfl
theorem RepL.atI {K : PySem.W.Frag} {F : Hp} {xs : List PV} {vs : List V} {i : Int} {x : PV} (h : RepL K F xs vs) (e : L2.atI xs i = some x) : ∃ v, L2.atI vs i = some v ∧ Rep K F x v := by
  unfold L2.atI at e ⊢
  rw [h.length]
  cases q : ixN xs.length i with
  | none => rw [q] at e; cases e
  | some j =>
    rw [q] at e
    exact h.get (show xs[j]? = some x from e)
theorem atI_map {α β : Type} (f : α → β) (xs : List α) (i : Int) : L2.atI (xs.map f) i = (L2.atI xs i).map f := by
  unfold L2.atI
  rw [List.length_map]
  cases ixN xs.length i with
  | none => rfl
  | some j => show (xs.map f)[j]? = _; rw [List.getElem?_map]; rfl
theorem ix_ok (P : Px) : IxR P.X fun x y H Q => ∃ F ω a b, Wd P.G F ω H ∧ Rv P.X.K F H a x ∧ Rv P.X.K F H b y ∧ (oIx a b).wp (fun _ => False) fun z => Val P 0 F ω H z Q := by
  intro value slice pins s σ H x y v u Q I rx ry ⟨F, ω, a, b, w, ra, rb, h⟩
  refine ix_seq value slice pins s σ H x y v u Q I rx ry ?_
  cases b <;> first | (cases a <;> exact False.elim h) | skip
  case int i =>
  have ei := rb.int
  cases a <;> first | exact False.elim h | skip
  case lst xs =>
    obtain ⟨p, vs, e1, e2, r1⟩ := ra.lst w
    obtain ⟨z, e, h⟩ := Rs.opt_wp h
    obtain ⟨v', e3, r3⟩ := r1.atI e
    exact .inl ⟨p, vs, i, v', e1, ei, SqL.of e2, e3, Val.of0 h w r3⟩
  case tup xs =>
    obtain ⟨p, vs, e1, e2, r1⟩ := ra.tup w
    obtain ⟨z, e, h⟩ := Rs.opt_wp h
    obtain ⟨v', e3, r3⟩ := r1.atI e
    exact .inr (.inl ⟨p, vs, i, v', e1, ei, e2.sq, e3, Val.of0 h w r3⟩)
  case ro ns =>
    obtain ⟨p, e1, e2⟩ := ra.ro w
    obtain ⟨z, e, h⟩ := Rs.opt_wp h
    obtain ⟨k, e3, e4⟩ := Option.map_eq_some_iff.mp e
    subst e4
    exact .inl ⟨p, _, i, .int k, e1, ei, e2, by rw [atI_map, e3]; rfl, Val.of0 h w rfl⟩
  case str z =>
    by_cases hz : z.length ≤ lim
    · have h : (Rs.opt ((atI z.cps.toList i).map fun c => PV.str ⟨#[c]⟩)).wp (fun _ => False) fun z => Val P 0 F ω H z Q := by
        have h' : (if z.length ≤ lim then Rs.opt ((atI z.cps.toList i).map fun c => PV.str ⟨#[c]⟩) else .stuck).wp (fun _ => False) fun z => Val P 0 F ω H z Q := h
        rw [if_pos hz] at h'; exact h'
      obtain ⟨y, e, h⟩ := Rs.opt_wp h
      obtain ⟨k, e3, e4⟩ := Option.map_eq_some_iff.mp e
      subst e4
      exact .inr (.inr ⟨z, i, k, ra.str, ei, by rw [lim_eq]; exact hz, e3, Val.of0 h w rfl⟩)
    · have h' : (if z.length ≤ lim then Rs.opt ((atI z.cps.toList i).map fun c => PV.str ⟨#[c]⟩) else .stuck).wp (fun _ => False) fun z => Val P 0 F ω H z Q := h
      rw [if_neg hz] at h'; exact h'.elim
theorem qe_ix {fa fb : Env → Rs PV} (ha : QE P ds 3 a fa) (hb : QE P ds 3 b fb) (hs : PlainIx b := by intro _ _; rfl) : QE P ds 0 (.Subscript a b pos) (eOp oIx fa fb) :=
  PE.imp (pe_ix (ix_ok P) ha hb hs) fun σ H Q ⟨F, ω, env, r, h⟩ => bin_to (a := a) (b := b) r h fun F' ω' H' x y v u l w s1 s2 q => ⟨F', ω', x, y, w, s1, s2, Rs.wp_mono (noexc_wp q) (fun _ z => z) fun z hz => hz.mono l⟩

def cut {α : Type} (xs : List α) (lo hi : Option Int) : List α := (xs.drop (HT.sIx xs.length 0 lo)).take (HT.sIx xs.length xs.length hi - HT.sIx xs.length 0 lo)
theorem RepL.cut {K : PySem.W.Frag} {F : Hp} {xs : List PV} {vs : List V} (h : RepL K F xs vs) (lo hi : Option Int) : RepL K F (cut xs lo hi) (cutV vs lo hi) := by
  unfold Pw.cut cutV
  rw [h.length]
  exact (h.drop _).take _
/-- a part of a slice -/
@[simp] def pNone (_ : Env) : Rs (Option Int) := .ok none
@[simp] def pSome (f : Env → Rs PV) (env : Env) : Rs (Option Int) := (f env).bind fun x => match x with
  | .int i => .ok (some i)
  | _ => .stuck
def liftO (P : Px) (ds : List Nat) (f : Env → Rs (Option Int)) : TO := fun σ H Q => ∃ F ω env, Rel P.X.K P.G ds F ω env σ H ∧ (f env).wp (fun c => ExcW P c σ H) fun x => ∀ F' ω' H', Le F ω H F' ω' H' → Wd P.G F' ω' H' → Q x H'
def QO (P : Px) (ds : List Nat) (e : Option Expr) (f : Env → Rs (Option Int)) : Prop := PO P.X e (liftO P ds f)
theorem PO.imp {X : Cx} {e : Option Expr} {t t' : TO} (h : PO X e t) (i : ∀ σ H Q, t' σ H Q → t σ H Q) : PO X e t' := ⟨fun p s σ H Q I q => h.run p s σ H Q I (i _ _ _ q)⟩
theorem qo_none : QO P ds none pNone := PO.imp po_none fun σ H Q ⟨F, ω, env, r, q⟩ => q F ω H (.refl F ω H) r.wd
theorem qo_some {f : Env → Rs PV} (h : QE P ds 0 e f) : QO P ds (some e) (pSome f) := PO.imp (po_some h) fun σ H Q ⟨F, ω, env, r, q⟩ => lift.to r (Rs.wp_bind.mp q) (fun _ z => z) fun x hx F' ω' H' v l w s _ => by
  cases x with
  | int i => exact ⟨i, s, hx F' ω' H' l w⟩
  | _ => exact hx.elim
@[simp] def eSl (f : Env → Rs PV) (lo hi : Env → Rs (Option Int)) (env : Env) : Rs PV := (f env).bind fun x => (lo env).bind fun l => (hi env).bind fun h => match x with
  | .lst xs => .ok (.lst (cut xs l h))
  | _ => .stuck
theorem qe_sl {d : Nat} (hd : d ≤ 1) {lo hi : Option Expr} {p2 : Pos} {f : Env → Rs PV} {fl fh : Env → Rs (Option Int)} (he : QE P ds 3 e f) (hl : QO P ds lo fl) (hh : QO P ds hi fh) : QE P ds d (.Subscript e (.Slice lo hi none p2) pos) (eSl f fl fh) :=
  PE.imp (pe_slice sl_list he hl hh) fun σ H Q ⟨F, ω, env, r, q⟩ => by
    refine lift.to r (Rs.wp_bind.mp q) (fun _ z => z) fun x hx F1 ω1 H1 v l1 w1 s1 _ => ?_
    refine ⟨F1, ω1, env, r.mono l1 w1, Rs.wp_mono (Rs.wp_bind.mp hx) (fun c z => z.mono l1.h) fun lo' hlo F2 ω2 H2 l2 w2 => ?_⟩
    have l3 := l1.trans l2
    refine ⟨F2, ω2, env, r.mono l3 w2, Rs.wp_mono (Rs.wp_bind.mp hlo) (fun c z => z.mono l3.h) fun hi' hhi F4 ω4 H4 l4 w4 => ?_⟩
    have l5 := l3.trans l4
    cases x with
    | lst xs =>
      obtain ⟨p, vs, e1, e2, r1⟩ := (Rv.mono (l2.trans l4).f (l2.trans l4).h (show Rv P.X.K F1 H1 (.lst xs) v from s1)).lst w4
      exact ⟨p, vs, e1, SqL.of e2, Val.newL hd (Val.mono hhi l5) w4 (r1.cut lo' hi')⟩
    | _ => exact hhi.elim
end
end Pw

namespace Pw
open PySem L2
/-! ### calls of built-in functions -/
def intsOf : List PV → Option (List Int)
  | [] => some []
  | .int i :: xs => (intsOf xs).map (i :: ·)
  | _ :: _ => none
def boolsOf : List PV → Option (List Bool)
  | [] => some []
  | .bl i :: xs => (boolsOf xs).map (i :: ·)
  | _ :: _ => none
@[simp] theorem ints_map : ∀ ns : List Int, intsOf (ns.map PV.int) = some ns
  | [] => rfl
  | n :: ns => by rw [List.map_cons, intsOf, ints_map ns]; rfl
@[simp] theorem bools_map : ∀ ns : List Bool, boolsOf (ns.map PV.bl) = some ns
  | [] => rfl
  | n :: ns => by rw [List.map_cons, boolsOf, bools_map ns]; rfl
theorem ints_rep {K : PySem.W.Frag} {F : Hp} : ∀ {xs : List PV} {vs : List V} {ns : List Int}, intsOf xs = some ns → RepL K F xs vs → vs = ns.map V.int
  | [], vs, ns, e, h => by cases e; exact h
  | x :: xs, _, ns, e, ⟨v, r, e2, p, q⟩ => by
    cases x <;> first | cases e | skip
    case int i =>
    obtain ⟨ms, e3, rfl⟩ := Option.map_eq_some_iff.mp (show (intsOf xs).map (i :: ·) = some ns from e)
    subst e2
    rw [show v = V.int i from p, ints_rep e3 q]; rfl
theorem bools_rep {K : PySem.W.Frag} {F : Hp} : ∀ {xs : List PV} {vs : List V} {ns : List Bool}, boolsOf xs = some ns → RepL K F xs vs → vs = ns.map V.bl
  | [], vs, ns, e, h => by cases e; exact h
  | x :: xs, _, ns, e, ⟨v, r, e2, p, q⟩ => by
    cases x <;> first | cases e | skip
    case bl i =>
    obtain ⟨ms, e3, rfl⟩ := Option.map_eq_some_iff.mp (show (boolsOf xs).map (i :: ·) = some ns from e)
    subst e2
    rw [show v = V.bl i from p, bools_rep e3 q]; rfl
def ClR (P : Px) (f : Value) (d : Nat) (o : List PV → Rs PV) : Prop :=
  CallR P.X f fun vs H Q => ∃ F ω xs, Wd P.G F ω H ∧ RvL P.X.K F H xs vs ∧ (o xs).wp (fun _ => False) fun z => Val P d F ω H z Q
@[simp] def eCall (o : List PV → Rs PV) (fa : Env → Rs (List PV)) (env : Env) : Rs PV := (fa env).bind fun xs => (o xs).noexc
section
variable {P : Px} {ds : List Nat} {pos p : Pos} {a b c e : Expr} {es : List Expr} {x : Str} {id T : String} {d : Nat} {o : List PV → Rs PV} {fa : Env → Rs (List PV)}
theorem call_to {σ : St} {H : Hp} {Q : VK} (h : lift P ds d (eCall o fa) σ H Q) : liftB P ds fa σ H fun vs H1 => ∃ F ω xs, Wd P.G F ω H1 ∧ RvL P.X.K F H1 xs vs ∧ (o xs).wp (fun _ => False) fun z => Val P d F ω H1 z Q := by
  obtain ⟨F, ω, env, r, q⟩ := h
  exact liftB.to r (Rs.wp_bind.mp q) (fun _ z => z) fun xs hx F' ω' H' vs l w s => ⟨F', ω', xs, w, s, Rs.wp_mono (noexc_wp hx) (fun _ z => z) fun z hz => hz.mono l⟩
theorem qe_callB (hc : ClR P (.builtin id) d o) (hg : Gl P.X x) (hm : P.X.mg x = none) (hv : bootBuiltins x = some (.builtin id)) (ha : QR P ds (e :: es) fa) (hn : x ≠ "__name__" := by decide) (hdb : (x == ("__debug__" : Str)) = false := by decide)
    (he : starEach (e :: es) P.X.env = (false, eval e P.X.env) :: starEach es P.X.env := by rfl) (hpl : (backTo pos (starEach es P.X.env)).any (·.1) = false := by rfl) : QE P ds d (.Call (.Name x p) (e :: es) [] pos) (eCall o fa) :=
  PE.imp (pe_callB hc hg hm hv ha.1 hn hdb he hpl) fun σ H Q h => call_to h
theorem qe_callT (hc : ClR P (.type T) d o) (hg : Gl P.X x) (hm : P.X.mg x = none) (hv : bootBuiltins x = some (.type T)) (ha : QR P ds (e :: es) fa) (hn : x ≠ "__name__" := by decide) (hdb : (x == ("__debug__" : Str)) = false := by decide)
    (he : starEach (e :: es) P.X.env = (false, eval e P.X.env) :: starEach es P.X.env := by rfl) (hpl : (backTo pos (starEach es P.X.env)).any (·.1) = false := by rfl) : QE P ds d (.Call (.Name x p) (e :: es) [] pos) (eCall o fa) :=
  PE.imp (pe_callTy hc hg hm hv ha.1 hn hdb he hpl) fun σ H Q h => call_to h
/-- a function of a module that was brought in (math.gcd) -/
theorem qe_callF (hc : ClR P (.builtin id) d o) (hg : Gl P.X x) (hm : P.X.mg x = some (.builtin id)) (ha : QR P ds (e :: es) fa) (hdb : (x == ("__debug__" : Str)) = false := by decide)
    (he : starEach (e :: es) P.X.env = (false, eval e P.X.env) :: starEach es P.X.env := by rfl) (hpl : (backTo pos (starEach es P.X.env)).any (·.1) = false := by rfl) : QE P ds d (.Call (.Name x p) (e :: es) [] pos) (eCall o fa) :=
  PE.imp (pe_callBfun hc hg hm ha.1 hdb he hpl) fun σ H Q h => call_to h

def oLen : List PV → Rs PV
  | [.lst xs] => .ok (.int xs.length)
  | [.tup xs] => .ok (.int xs.length)
  | [.ro ns] => .ok (.int ns.length)
  | [.str x] => if x.length ≤ lim then .ok (.int x.length) else .stuck
  | _ => .stuck
@[simp] theorem oLen_r1 (xs : List PV) : oLen [.lst xs] = .ok (.int xs.length) := rfl
@[simp] theorem oLen_r2 (xs : List PV) : oLen [.tup xs] = .ok (.int xs.length) := rfl
@[simp] theorem oLen_r3 (ns : List Int) : oLen [.ro ns] = .ok (.int ns.length) := rfl
@[simp] theorem oLen_r4 (x : Str) : oLen [.str x] = if x.length ≤ lim then .ok (.int x.length) else .stuck := rfl
theorem rv1 {K : PySem.W.Frag} {F H : Hp} {x : PV} {vs : List V} (h : RvL K F H [x] vs) : ∃ v, vs = [v] ∧ Rv K F H x v := by
  obtain ⟨v, r, e, h1, h2⟩ := h
  rw [show r = [] from h2] at e
  exact ⟨v, e, h1⟩
theorem rv2 {K : PySem.W.Frag} {F H : Hp} {x y : PV} {vs : List V} (h : RvL K F H [x, y] vs) : ∃ v u, vs = [v, u] ∧ Rv K F H x v ∧ Rv K F H y u := by
  obtain ⟨v, r, e, h1, h2⟩ := h
  obtain ⟨u, e2, h3⟩ := rv1 h2
  subst e2
  exact ⟨v, u, e, h1, h3⟩
theorem c_len : ClR P (.builtin "len") 0 oLen := by
  intro pins s σ H vs us Q I r ⟨F, ω, xs, w, rv, h⟩
  match xs, rv, h with
  | [.lst xs], rv, h =>
    obtain ⟨v, rfl, q1⟩ := rv1 rv
    obtain ⟨a, vs, rfl, e, rr⟩ := q1.lst w
    exact call_len pins s σ H _ us Q I r ⟨_, vs.length, rfl, .inl ⟨vs, SqL.of e, rfl⟩, by rw [rr.length]; exact Val.of0 h w rfl⟩
  | [.tup xs], rv, h =>
    obtain ⟨v, rfl, q1⟩ := rv1 rv
    obtain ⟨a, vs, rfl, e, rr⟩ := q1.tup w
    exact call_len pins s σ H _ us Q I r ⟨_, vs.length, rfl, .inr ⟨vs, e.sq, rfl⟩, by rw [rr.length]; exact Val.of0 h w rfl⟩
  | [.ro ns], rv, h =>
    obtain ⟨v, rfl, q1⟩ := rv1 rv
    obtain ⟨a, rfl, e⟩ := q1.ro w
    exact call_len pins s σ H _ us Q I r ⟨_, _, rfl, .inl ⟨_, e, rfl⟩, by rw [List.length_map]; exact Val.of0 h w rfl⟩
  | [.str x], rv, h =>
    obtain ⟨hz, h⟩ := ite_ok h
    obtain ⟨v, rfl, q1⟩ := rv1 rv
    exact call_len pins s σ H _ us Q I r ⟨_, x.length, rfl, by rw [q1.str]; exact ⟨by rw [lim_eq]; exact hz, rfl⟩, Val.of0 h w rfl⟩
  | [], _, h => exact False.elim h
  | [.non], _, h => exact False.elim h
  | [.bl _], _, h => exact False.elim h
  | [.int _], _, h => exact False.elim h
  | _ :: _ :: _, _, h => revert h; rename_i x y z _; cases x <;> exact False.elim
def oAbs : List PV → Rs PV
  | [.int i] => .ok (.int (if i < 0 then -i else i))
  | _ => .stuck
@[simp] theorem oAbs_r1 (i : Int) : oAbs [.int i] = .ok (.int (if i < 0 then -i else i)) := rfl
theorem c_abs : ClR P (.builtin "abs") 0 oAbs := by
  intro pins s σ H vs us Q I r ⟨F, ω, xs, w, rv, h⟩
  unfold oAbs at h
  split at h
  · rename_i i
    obtain ⟨v, rfl, q1⟩ := rv1 rv
    exact call_abs pins s σ H _ us Q I r ⟨i, by rw [q1.int], Val.of0 h w rfl⟩
  · exact False.elim h
def oInt : List PV → Rs PV
  | [.int i] => .ok (.int i)
  | [.bl k] => .ok (.int (if k then 1 else 0))
  | _ => .stuck
@[simp] theorem oInt_r1 (i : Int) : oInt [.int i] = .ok (.int i) := rfl
@[simp] theorem oInt_r2 (k : Bool) : oInt [.bl k] = .ok (.int (if k then 1 else 0)) := rfl
theorem c_int : ClR P (.type "int") 0 oInt := by
  intro pins s σ H vs us Q I r ⟨F, ω, xs, w, rv, h⟩
  unfold oInt at h
  split at h
  · rename_i i
    obtain ⟨v, rfl, q1⟩ := rv1 rv
    exact call_int1 pins s σ H _ us Q I r (.inl ⟨i, by rw [q1.int], Val.of0 h w rfl⟩)
  · rename_i i
    obtain ⟨v, rfl, q1⟩ := rv1 rv
    exact call_int1 pins s σ H _ us Q I r (.inr ⟨i, by rw [q1.bl], Val.of0 h w rfl⟩)
  · exact False.elim h
def oMax : List PV → Rs PV
  | [.int i, .int j] => .ok (.int (if i < j then j else i))
  | [.lst xs] => match intsOf xs with
    | some ns => .opt (ns.max?.map PV.int)
    | none => .stuck
  | _ => .stuck
@[simp] theorem oMax_r1 (i : Int) (j : Int) : oMax [.int i, .int j] = .ok (.int (if i < j then j else i)) := rfl
@[simp] theorem oMax_r2 (xs : List PV) : oMax [.lst xs] = match intsOf xs with
    | some ns => .opt (ns.max?.map PV.int)
    | none => .stuck := rfl
def oMin : List PV → Rs PV
  | [.int i, .int j] => .ok (.int (if j < i then j else i))
  | [.lst xs] => match intsOf xs with
    | some ns => .opt (ns.min?.map PV.int)
    | none => .stuck
  | _ => .stuck
@[simp] theorem oMin_r1 (i : Int) (j : Int) : oMin [.int i, .int j] = .ok (.int (if j < i then j else i)) := rfl
@[simp] theorem oMin_r2 (xs : List PV) : oMin [.lst xs] = match intsOf xs with
    | some ns => .opt (ns.min?.map PV.int)
    | none => .stuck := rfl
theorem c_max (hc : P.X.calm = true) : ClR P (.builtin "max") 0 oMax := by
  intro pins s σ H vs us Q I r ⟨F, ω, xs, w, rv, h⟩
  unfold oMax at h
  split at h
  · rename_i i j
    obtain ⟨v, u, rfl, r1, r2⟩ := rv2 rv
    exact call_max2 hc pins s σ H _ us Q I r ⟨i, j, by rw [r1.int, r2.int], Val.of0 h w rfl⟩
  · rename_i xs
    obtain ⟨v, rfl, q1⟩ := rv1 rv
    obtain ⟨a, vs, rfl, e, rr⟩ := q1.lst w
    split at h
    · rename_i ns e2
      obtain ⟨z, e3, h⟩ := Rs.opt_wp h
      obtain ⟨m, e4, e5⟩ := Option.map_eq_some_iff.mp e3
      subst e5
      obtain ⟨m1, m2⟩ := List.max?_eq_some_iff.mp e4
      refine cr_max hc pins s σ H _ us Q I r ⟨a, ns, rfl, by rw [← ints_rep e2 rr]; exact SqL.of e, List.length_pos_of_mem m1, fun m' h1 h2 => ?_⟩
      have : m' = m := Int.le_antisymm (m2 m' h1) (h2 m m1)
      subst this
      exact Val.of0 h w rfl
    · exact False.elim h
  · exact False.elim h
theorem c_min (hc : P.X.calm = true) : ClR P (.builtin "min") 0 oMin := by
  intro pins s σ H vs us Q I r ⟨F, ω, xs, w, rv, h⟩
  unfold oMin at h
  split at h
  · rename_i i j
    obtain ⟨v, u, rfl, r1, r2⟩ := rv2 rv
    exact call_min2 hc pins s σ H _ us Q I r ⟨i, j, by rw [r1.int, r2.int], Val.of0 h w rfl⟩
  · rename_i xs
    obtain ⟨v, rfl, q1⟩ := rv1 rv
    obtain ⟨a, vs, rfl, e, rr⟩ := q1.lst w
    split at h
    · rename_i ns e2
      obtain ⟨z, e3, h⟩ := Rs.opt_wp h
      obtain ⟨m, e4, e5⟩ := Option.map_eq_some_iff.mp e3
      subst e5
      obtain ⟨m1, m2⟩ := List.min?_eq_some_iff.mp e4
      refine cr_min hc pins s σ H _ us Q I r ⟨a, ns, rfl, by rw [← ints_rep e2 rr]; exact SqL.of e, List.length_pos_of_mem m1, fun m' h1 h2 => ?_⟩
      have : m' = m := Int.le_antisymm (h2 m m1) (m2 m' h1)
      subst this
      exact Val.of0 h w rfl
    · exact False.elim h
  · exact False.elim h
def oSum : List PV → Rs PV
  | [.lst xs] => match intsOf xs with
    | some ns => .ok (.int ns.sum)
    | none => .stuck
  | _ => .stuck
@[simp] theorem oSum_r1 (xs : List PV) : oSum [.lst xs] = match intsOf xs with
    | some ns => .ok (.int ns.sum)
    | none => .stuck := rfl
theorem c_sum (hc : P.X.calm = true) : ClR P (.builtin "sum") 0 oSum := by
  intro pins s σ H vs us Q I r ⟨F, ω, xs, w, rv, h⟩
  unfold oSum at h
  split at h
  · rename_i xs
    obtain ⟨v, rfl, q1⟩ := rv1 rv
    obtain ⟨a, vs, rfl, e, rr⟩ := q1.lst w
    split at h
    · rename_i ns e2
      exact cr_sum hc pins s σ H _ us Q I r ⟨a, ns, rfl, by rw [← ints_rep e2 rr]; exact SqL.of e, Val.of0 h w rfl⟩
    · exact False.elim h
  · exact False.elim h
def oAny : List PV → Rs PV
  | [.lst xs] => match boolsOf xs with
    | some ns => .ok (.bl (ns.any fun b => b))
    | none => .stuck
  | _ => .stuck
@[simp] theorem oAny_r1 (xs : List PV) : oAny [.lst xs] = match boolsOf xs with
    | some ns => .ok (.bl (ns.any fun b => b))
    | none => .stuck := rfl
def oAll : List PV → Rs PV
  | [.lst xs] => match boolsOf xs with
    | some ns => .ok (.bl (ns.all fun b => b))
    | none => .stuck
  | _ => .stuck
@[simp] theorem oAll_r1 (xs : List PV) : oAll [.lst xs] = match boolsOf xs with
    | some ns => .ok (.bl (ns.all fun b => b))
    | none => .stuck := rfl
theorem c_any (hc : P.X.calm = true) : ClR P (.builtin "any") 0 oAny := by
  intro pins s σ H vs us Q I r ⟨F, ω, xs, w, rv, h⟩
  unfold oAny at h
  split at h
  · rename_i xs
    obtain ⟨v, rfl, q1⟩ := rv1 rv
    obtain ⟨a, vs, rfl, e, rr⟩ := q1.lst w
    split at h
    · rename_i ns e2
      exact cr_any hc pins s σ H _ us Q I r ⟨a, ns, rfl, by rw [← bools_rep e2 rr]; exact SqL.of e, Val.of0 h w rfl⟩
    · exact False.elim h
  · exact False.elim h
theorem c_all (hc : P.X.calm = true) : ClR P (.builtin "all") 0 oAll := by
  intro pins s σ H vs us Q I r ⟨F, ω, xs, w, rv, h⟩
  unfold oAll at h
  split at h
  · rename_i xs
    obtain ⟨v, rfl, q1⟩ := rv1 rv
    obtain ⟨a, vs, rfl, e, rr⟩ := q1.lst w
    split at h
    · rename_i ns e2
      exact cr_all hc pins s σ H _ us Q I r ⟨a, ns, rfl, by rw [← bools_rep e2 rr]; exact SqL.of e, Val.of0 h w rfl⟩
    · exact False.elim h
  · exact False.elim h
def oList : List PV → Rs PV
  | [.lst xs] => .ok (.lst xs)
  | [.tup xs] => .ok (.lst xs)
  | _ => .stuck
@[simp] theorem oList_r1 (xs : List PV) : oList [.lst xs] = .ok (.lst xs) := rfl
@[simp] theorem oList_r2 (xs : List PV) : oList [.tup xs] = .ok (.lst xs) := rfl
theorem c_list (hd : d ≤ 1) : ClR P (.type "list") d oList := by
  intro pins s σ H vs us Q I r ⟨F, ω, xs, w, rv, h⟩
  unfold oList at h
  split at h
  · rename_i xs
    obtain ⟨v, rfl, q1⟩ := rv1 rv
    obtain ⟨a, vs, rfl, e, rr⟩ := q1.lst w
    exact call_list_of pins s σ H _ us Q I r ⟨a, vs, rfl, .inl (SqL.of e), Val.newL hd h w rr⟩
  · rename_i xs
    obtain ⟨v, rfl, q1⟩ := rv1 rv
    obtain ⟨a, vs, rfl, e, rr⟩ := q1.tup w
    exact call_list_of pins s σ H _ us Q I r ⟨a, vs, rfl, .inr e.sq, Val.newL hd h w rr⟩
  · exact False.elim h
def oTuple : List PV → Rs PV
  | [.lst xs] => .ok (.tup xs)
  | [.tup xs] => .ok (.tup xs)
  | _ => .stuck
@[simp] theorem oTuple_r1 (xs : List PV) : oTuple [.lst xs] = .ok (.tup xs) := rfl
@[simp] theorem oTuple_r2 (xs : List PV) : oTuple [.tup xs] = .ok (.tup xs) := rfl
theorem c_tuple : ClR P (.type "tuple") 0 oTuple := by
  intro pins s σ H vs us Q I r ⟨F, ω, xs, w, rv, h⟩
  unfold oTuple at h
  split at h
  · rename_i xs
    obtain ⟨v, rfl, q1⟩ := rv1 rv
    obtain ⟨a, vs, rfl, e, rr⟩ := q1.lst w
    exact call_tuple_of pins s σ H _ us Q I r ⟨a, vs, rfl, .inl ⟨SqL.of e, Val.newT h w rr⟩⟩
  · rename_i xs
    obtain ⟨v, rfl, q1⟩ := rv1 rv
    obtain ⟨a, vs, rfl, e, rr⟩ := q1.tup w
    refine call_tuple_of pins s σ H _ us Q I r ⟨a, vs, rfl, .inr ⟨e.sq, Val.of0 h w q1.rep⟩⟩
  · exact False.elim h
/-- the sorted list -/
def insI (x : Int) : List Int → List Int
  | [] => [x]
  | y :: ys => if x ≤ y then x :: y :: ys else y :: insI x ys
def sortI : List Int → List Int
  | [] => []
  | x :: xs => insI x (sortI xs)
theorem insI_perm (x : Int) : ∀ ys : List Int, (insI x ys).Perm (x :: ys)
  | [] => List.Perm.refl _
  | y :: ys => by
    unfold insI
    split
    · exact List.Perm.refl _
    · exact ((insI_perm x ys).cons y).trans (List.Perm.swap x y ys)
theorem sortI_perm : ∀ ys : List Int, (sortI ys).Perm ys
  | [] => List.Perm.refl _
  | y :: ys => (insI_perm y (sortI ys)).trans ((sortI_perm ys).cons y)
theorem insI_sorted (x : Int) : ∀ {ys : List Int}, ys.Pairwise (· ≤ ·) → (insI x ys).Pairwise (· ≤ ·)
  | [], _ => by simp [insI]
  | y :: ys, h => by
    unfold insI
    rw [List.pairwise_cons] at h
    split
    · rename_i hx
      rw [List.pairwise_cons]
      refine ⟨fun z hz => ?_, List.pairwise_cons.mpr h⟩
      rcases List.mem_cons.mp hz with rfl | hz
      · exact hx
      · exact Int.le_trans hx (h.1 z hz)
    · rename_i hx
      rw [List.pairwise_cons]
      refine ⟨fun z hz => ?_, insI_sorted x h.2⟩
      rcases List.mem_cons.mp ((insI_perm x ys).mem_iff.mp hz) with rfl | hz
      · omega
      · exact h.1 z hz
theorem sortI_sorted : ∀ ys : List Int, (sortI ys).Pairwise (· ≤ ·)
  | [] => List.Pairwise.nil
  | y :: ys => insI_sorted y (sortI_sorted ys)
theorem sorted_uniq : ∀ {xs ys : List Int}, xs.Perm ys → xs.Pairwise (· ≤ ·) → ys.Pairwise (· ≤ ·) → xs = ys
  | [], ys, h, _, _ => by rw [List.nil_perm.mp h]
  | x :: xs, [], h, _, _ => by have := h.length_eq; simp at this
  | x :: xs, y :: ys, h, h1, h2 => by
    rw [List.pairwise_cons] at h1 h2
    have e : x = y := by
      have a : x ∈ y :: ys := h.mem_iff.mp List.mem_cons_self
      have b : y ∈ x :: xs := h.mem_iff.mpr List.mem_cons_self
      rcases List.mem_cons.mp a with e | a
      · exact e
      · rcases List.mem_cons.mp b with e | b
        · exact e.symm
        · exact Int.le_antisymm (h1.1 y b) (h2.1 x a)
    subst e
    rw [sorted_uniq (List.Perm.cons_inv h) h1.2 h2.2]
def oSorted : List PV → Rs PV
  | [.lst xs] => match intsOf xs with
    | some ns => .ok (.lst ((sortI ns).map PV.int))
    | none => .stuck
  | _ => .stuck
@[simp] theorem oSorted_r1 (xs : List PV) : oSorted [.lst xs] = match intsOf xs with
    | some ns => .ok (.lst ((sortI ns).map PV.int))
    | none => .stuck := rfl
theorem c_sorted (hd : d ≤ 1) : ClR P (.builtin "sorted") d oSorted := by
  intro pins s σ H vs us Q I r ⟨F, ω, xs, w, rv, h⟩
  unfold oSorted at h
  split at h
  · rename_i xs
    obtain ⟨v, rfl, q1⟩ := rv1 rv
    obtain ⟨a, vs, rfl, e, rr⟩ := q1.lst w
    split at h
    · rename_i ns e2
      refine cr_sortedI pins s σ H _ us Q I r ⟨a, ns, rfl, by rw [← ints_rep e2 rr]; exact SqL.of e, fun ns' p h1 h2 hp => ?_⟩
      have e3 := sorted_uniq (h1.trans (sortI_perm ns).symm) h2 (sortI_sorted ns)
      subst e3
      exact Val.newL hd h w (RepL.of_ints F _) p hp
    · exact False.elim h
  · exact False.elim h
def oGcd : List PV → Rs PV
  | [.int i, .int j] => .ok (.int ((Nat.gcd i.natAbs j.natAbs : Nat) : Int))
  | _ => .stuck
@[simp] theorem oGcd_r1 (i : Int) (j : Int) : oGcd [.int i, .int j] = .ok (.int ((Nat.gcd i.natAbs j.natAbs : Nat) : Int)) := rfl
theorem c_gcd : ClR P (.builtin "math.gcd") 0 oGcd := by
  intro pins s σ H vs us Q I r ⟨F, ω, xs, w, rv, h⟩
  unfold oGcd at h
  split at h
  · rename_i i j
    obtain ⟨v, u, rfl, r1, r2⟩ := rv2 rv
    exact cr_gcd pins s σ H _ us Q I r ⟨i, j, by rw [r1.int, r2.int], Val.of0 h w rfl⟩
  · exact False.elim h

/-! ### isinstance with a built-in type, with a tuple of such -/
def tyN : PV → String
  | .non => "NoneType" | .bl _ => "bool" | .int _ => "int" | .str _ => "str" | .lst _ => "list" | .tup _ => "tuple" | .ro _ => "list"
@[simp] theorem tyN_r1 : tyN (.non) = "NoneType" := rfl
@[simp] theorem tyN_r2 (w1 : Bool) : tyN (.bl w1) = "bool" := rfl
@[simp] theorem tyN_r3 (w2 : Int) : tyN (.int w2) = "int" := rfl
@[simp] theorem tyN_r4 (w3 : Str) : tyN (.str w3) = "str" := rfl
@[simp] theorem tyN_r5 (w4 : List PV) : tyN (.lst w4) = "list" := rfl
@[simp] theorem tyN_r6 (w5 : List PV) : tyN (.tup w5) = "tuple" := rfl
@[simp] theorem tyN_r7 (w6 : List Int) : tyN (.ro w6) = "list" := rfl
/-- is it of the type named T -/
@[simp] def isT (T : String) (x : PV) : Bool := tyN x == T || (T == "int" && tyN x == "bool")
def isTs : List String := ["int", "bool", "str", "list", "tuple"]
theorem isT_kit : ∀ t ∈ ["NoneType", "bool", "int", "str", "list", "tuple"], ∀ T ∈ isTs, kitB t T = some (t == T || (T == "int" && t == "bool")) := by decide +kernel
theorem tyN_mem (x : PV) : tyN x ∈ ["NoneType", "bool", "int", "str", "list", "tuple"] := by cases x <;> simp [tyN]
theorem tyX_of {K : PySem.W.Frag} {F : Hp} {ω : Om} {H : Hp} {G : Gh} {x : PV} {v : V} (w : Wd G F ω H) (h : Rv K F H x v) : TyX K H v (.type (tyN x)) := by
  cases x with
  | non => rw [h.non]; exact .base .non
  | bl b => rw [h.bl]; exact .base (.bl b)
  | int b => rw [h.int]; exact .base (.int b)
  | str b => rw [h.str]; exact .base (.str b)
  | lst xs => obtain ⟨a, vs, rfl, e, _⟩ := h.lst w; exact .base (.lst e)
  | tup xs =>
    obtain ⟨a, vs, rfl, e, _⟩ := h.tup w
    rcases e with e | ⟨o, its, n, e, c, _⟩
    · exact .base (.tup e)
    · exact .kTuple e c
  | ro ns =>
    obtain ⟨a, rfl, e⟩ := h.ro w
    rcases e with (e | ⟨o, e⟩) | ⟨o, its, n, e, c, _⟩
    · exact .base (.lst e)
    · exact .base (.frz e)
    · exact .kList e c
@[simp] def eIsi (T : String) (f : Env → Rs PV) (env : Env) : Rs PV := (f env).bind fun x => .ok (.bl (isT T x))
theorem qe_isi {px pc : Pos} {y : Str} (hT : T ∈ isTs) (hg : Gl P.X x) (hm : P.X.mg x = none) (hx : x = "isinstance") (hgy : Gl P.X y) (hmy : P.X.mg y = none) (hby : bootBuiltins y = some (.type T)) {f : Env → Rs PV} (ha : QE P ds 3 e f)
    (hn : x ≠ "__name__" := by decide) (hdb : (x == ("__debug__" : Str)) = false := by decide) (hny : y ≠ "__name__" := by decide) (hdy : (y == ("__debug__" : Str)) = false := by decide)
    (he : starEach [e, .Name y pc] P.X.env = (false, eval e P.X.env) :: starEach [.Name y pc] P.X.env := by rfl) (he2 : starEach [.Name y pc] P.X.env = (false, eval (.Name y pc) P.X.env) :: starEach [] P.X.env := by rfl) (hpl : (backTo pos (starEach [.Name y pc] P.X.env)).any (·.1) = false := by rfl) :
    QE P ds 0 (.Call (.Name x px) [e, .Name y pc] [] pos) (eIsi T f) := by
  subst hx
  refine PE.imp (pe_callB call_isi hg hm PyProof.Rows.boot_isinstance (pa_cons ha (pa_cons (pe_bltn hgy hmy hby (v := .ty T) rfl hny hdy) pa_nil he2) he) hn hdb he hpl) fun σ H Q ⟨F, ω, env, r, q⟩ => ?_
  refine lift.to r (Rs.wp_bind.mp q) (fun _ z => z) fun x hx F' ω' H' v l w s _ => ?_
  exact ⟨v, .ty T, .type (tyN x), .type T, isT T x, rfl, .ty T, tyX_of w s, kit_ty (isT_kit _ (tyN_mem x) _ hT), hx F' ω' H' _ l w rfl (by omega)⟩
@[simp] def eIsi2 (T U : String) (f : Env → Rs PV) (env : Env) : Rs PV := (f env).bind fun x => .ok (.bl (isT T x || isT U x))
theorem qe_isi2 {px pc pd pt : Pos} {y z : Str} {U : String} {k : Nat} (hT : T ∈ isTs) (hU : U ∈ isTs) (hg : Gl P.X x) (hm : P.X.mg x = none) (hx : x = "isinstance") (hgy : Gl P.X y) (hmy : P.X.mg y = none) (hby : bootBuiltins y = some (.type T)) (hgz : Gl P.X z) (hmz : P.X.mg z = none) (hbz : bootBuiltins z = some (.type U)) {f : Env → Rs PV} (ha : QE P ds 3 e f)
    (hn : x ≠ "__name__" := by decide) (hdb : (x == ("__debug__" : Str)) = false := by decide) (hny : y ≠ "__name__" := by decide) (hdy : (y == ("__debug__" : Str)) = false := by decide) (hnz : z ≠ "__name__" := by decide) (hdz : (z == ("__debug__" : Str)) = false := by decide)
    (he : starEach [e, .Tuple [.Name y pc, .Name z pd] k pt] P.X.env = (false, eval e P.X.env) :: starEach [.Tuple [.Name y pc, .Name z pd] k pt] P.X.env := by rfl) (he2 : starEach [.Tuple [.Name y pc, .Name z pd] k pt] P.X.env = (false, eval (.Tuple [.Name y pc, .Name z pd] k pt) P.X.env) :: starEach [] P.X.env := by rfl)
    (he3 : starEach [.Name y pc, .Name z pd] P.X.env = (false, eval (.Name y pc) P.X.env) :: starEach [.Name z pd] P.X.env := by rfl) (he4 : starEach [.Name z pd] P.X.env = (false, eval (.Name z pd) P.X.env) :: starEach [] P.X.env := by rfl)
    (hpl : (backTo pos (starEach [.Tuple [.Name y pc, .Name z pd] k pt] P.X.env)).any (·.1) = false := by rfl) :
    QE P ds 0 (.Call (.Name x px) [e, .Tuple [.Name y pc, .Name z pd] k pt] [] pos) (eIsi2 T U f) := by
  subst hx
  refine PE.imp (pe_callB call_isiT hg hm PyProof.Rows.boot_isinstance (pa_cons ha (pa_cons (pe_tup (pa_cons (pe_bltn hgy hmy hby (v := .ty T) rfl hny hdy) (pa_cons (pe_bltn hgz hmz hbz (v := .ty U) rfl hnz hdz) pa_nil he4) he3)) pa_nil he2) he) hn hdb he hpl) fun σ H Q ⟨F, ω, env, r, q⟩ => ?_
  refine lift.to r (Rs.wp_bind.mp q) (fun _ z => z) fun x hx F' ω' H' v l w s _ => ?_
  refine ⟨by show 2 ≤ sizeLine; rw [sizeLine_eq]; omega, fun p hp => ?_⟩
  obtain ⟨w2, l2⟩ := w.frz (o := .tup [.ty T, .ty U]) hp
  have s2 : Rv P.X.K (upd F' p (.tup [.ty T, .ty U])) (upd H' p (.tup [.ty T, .ty U])) x v := Rv.mono l2.f l2.h s
  refine ⟨v, p, [.ty T, .ty U], .type (tyN x), [.type T, .type U], isT T x || isT U x, rfl, upd_same, .cons (.ty T) (.cons (.ty U) .nil), tyX_of w2 s2, ?_, hx _ _ _ _ (l.trans l2) w2 rfl (by omega)⟩
  have k1 := kit_ty (K := P.X.K) (isT_kit _ (tyN_mem x) _ hT)
  have k2 := kit_ty (K := P.X.K) (isT_kit _ (tyN_mem x) _ hU)
  refine kitAny_cons k1 (fun e1 => kitAny_cons k2 (fun e2 => ?_) fun e2 => ?_) fun e1 => ?_
  · have e1 : isT T x = false := e1
    have e2 : isT U x = false := e2
    rw [e1, e2]; rfl
  · have e2 : isT U x = true := e2
    rw [e2, Bool.or_true]
  · have e1 : isT T x = true := e1
    rw [e1, Bool.true_or]
end
end Pw

namespace Pw
open PySem L2
/-! ### user functions -/
def spD (K : PySem.W.Frag) (mg : Str → Option Value) (n dr : Nat) (d : List PV → Rs PV) : Sp := fun vs H Q E => vs.length = n ∧ ∃ F pvs, Same F H ∧ RepL K F pvs vs ∧
  (d pvs).wp (fun c => ∀ C H', mg c = some (.ref C) → Same H H' → E (.ref C) none H') fun x => ∀ F' ω' H' v, Wd ⟨H, F⟩ F' ω' H' → Sl K F' ω' H' dr x v → (dr = 1 ∨ dr = 2 → ∀ p, v = .ref p → H p = none) → Q v H'
/-! has it no list within -/
mutual
@[simp] def noL : PV → Bool
  | .lst _ => false
  | .ro _ => false
  | .tup xs => noLs xs
  | _ => true
@[simp] def noLs : List PV → Bool
  | [] => true
  | x :: xs => noL x && noLs xs
end
/-- what a function that was handed an owned list may hand back -/
@[simp] def noA (dr : Nat) (x : PV) : Bool := match dr, x with
  | 0, x => noL x
  | 1, .lst xs => noLs xs
  | _, _ => false
@[simp] def eFun (d : List PV → Rs PV) (fa : Env → Rs (List PV)) (env : Env) : Rs PV := (fa env).bind d
@[simp] def eFunB (dr : Nat) (d : List PV → Rs PV) (fa : Env → Rs (List PV)) (env : Env) : Rs PV := (fa env).bind fun xs => (d xs).bind fun x => if noA dr x = true then .ok x else .stuck
def mrg (ω ω' : Om) : Om := fun p => match ω p with
  | some l => some l
  | none => ω' p
section
variable {K : PySem.W.Frag} {G : Gh} {F F' : Hp} {ω ω' : Om} {H H' : Hp}
theorem Wd.call (w : Wd G F ω H) (c : Wd ⟨H, F⟩ F' ω' H') : Wd G F' (mrg ω ω') H' ∧ Le F ω H F' (mrg ω ω') H' ∧ Le F' ω' H' F' (mrg ω ω') H' := by
  refine ⟨⟨w.h0.trans c.h0, w.f0.trans c.f0, c.f, fun a xs o' e e' => ?_, fun p l e => ?_⟩, ⟨c.f0, fun p l e => ?_, c.h0⟩, ⟨.refl _, fun p l e => ?_, .refl _⟩⟩
  · obtain ⟨o, h1⟩ := c.nw a xs o' e (w.h0 a o' e')
    have h1 : F a = some o := h1
    have h2 := (c.f0 a o h1)
    rw [e] at h2
    cases h2
    exact w.nw a xs o' h1 e'
  · unfold mrg at e
    split at e
    · rename_i l' h
      obtain ⟨h1, h2, vs, h3⟩ := w.om p _ h
      refine ⟨?_, h2, vs, c.h0 _ _ h3⟩
      cases q : F' p with
      | none => rfl
      | some u =>
        have h4 := c.h0 _ _ h3
        have h5 := c.f _ _ q
        rw [h4] at h5
        cases h5
        obtain ⟨o, h6⟩ := c.nw p vs _ q h3
        have h6 : F p = some o := h6
        rw [h1] at h6; cases h6
    · obtain ⟨h1, h2, vs, h3⟩ := c.om p _ e
      exact ⟨h1, w.h0.free h2, vs, h3⟩
  · unfold mrg; rw [e]
  · unfold mrg
    cases q : ω p with
    | none => exact e
    | some l' =>
      obtain ⟨_, h2, _⟩ := c.om p _ e
      obtain ⟨_, _, vs, h3⟩ := w.om p _ q
      have h2 : H p = none := h2
      rw [h2] at h3; cases h3
theorem RvL.length : ∀ {xs : List PV} {vs : List V}, RvL K F H xs vs → vs.length = xs.length
  | [], vs, h => by rw [show vs = [] from h]; rfl
  | x :: xs, _, ⟨v, r, e, _, q⟩ => by rw [e, List.length_cons, List.length_cons, RvL.length q]
theorem RvL.all (f : Same F H) : ∀ {xs : List PV} {vs : List V}, RvL K F H xs vs → RepL K H xs vs
  | [], vs, h => h
  | x :: xs, _, ⟨v, r, e, p, q⟩ => by
    refine ⟨v, r, e, ?_, RvL.all f q⟩
    rcases p with p | ⟨a, vs, ys, e1, e2, e3, p⟩
    · exact p.mono f
    · subst e1 e2; exact ⟨a, vs, rfl, e3, p.mono f⟩
/-- the frozen part behind a call that was handed owned lists: what is new, the tuples, what was frozen -/
def thin (F H F' : Hp) : Hp := fun a => match H a with
  | none => F' a
  | some (.tup vs) => some (.tup vs)
  | some _ => F a
theorem thin_tup (h : Same H F') {a : Addr} {vs : List V} (e : F' a = some (.tup vs)) : thin F H F' a = some (.tup vs) := by
  unfold thin
  split
  · exact e
  · rename_i us q
    rw [h _ _ q] at e; exact e
  · rename_i o n q
    rw [h _ _ q] at e
    cases e
    exact absurd rfl (n vs)
mutual
theorem Rep.thin (h : Same H F') : ∀ {x : PV} {v : V}, noL x = true → Rep K F' x v → Rep K (thin F H F') x v
  | .non, _, _, q => q
  | .bl _, _, _, q => q
  | .int _, _, _, q => q
  | .str _, _, _, q => q
  | .tup xs, _, n, ⟨a, vs, e, .inl f, r⟩ => ⟨a, vs, e, .inl (thin_tup h f), RepL.thin h n r⟩
  | .tup xs, _, n, ⟨a, vs, e, .inr f, r⟩ => ⟨a, vs, e, .inr f, RepL.thin h n r⟩
  | .lst xs, _, n, _ => by cases n
  | .ro xs, _, n, _ => by cases n
theorem RepL.thin (h : Same H F') : ∀ {xs : List PV} {vs : List V}, noLs xs = true → RepL K F' xs vs → RepL K (thin F H F') xs vs
  | [], _, _, q => q
  | x :: xs, _, n, ⟨v, r, e, p, q⟩ => by
    have n : (noL x && noLs xs) = true := n
    rw [Bool.and_eq_true] at n
    exact ⟨v, r, e, Rep.thin h n.1 p, RepL.thin h n.2 q⟩
end
theorem Wd.thin (w : Wd G F ω H) (c : Wd ⟨H, H⟩ F' ω' H') : Wd G (thin F H F') (mrg ω ω') H' ∧ Le F ω H (Pw.thin F H F') (mrg ω ω') H' ∧ ∀ p l, ω' p = some l → mrg ω ω' p = some l := by
  have sH : Same H F' := c.f0
  have om' : ∀ p l, ω' p = some l → ω p = none := fun p l e => by
    cases q : ω p with
    | none => rfl
    | some l' =>
      obtain ⟨_, h2, _⟩ := c.om p _ e
      obtain ⟨_, _, vs, h3⟩ := w.om p _ q
      have h2 : H p = none := h2
      rw [h2] at h3; cases h3
  have sF : Same F (Pw.thin F H F') := fun a o e => by
    have e2 := w.f _ _ e
    unfold Pw.thin
    rw [e2]
    cases o <;> first | exact e | rfl
  refine ⟨⟨w.h0.trans c.h0, w.f0.trans sF, fun a o e => ?_, fun a xs o' e e' => ?_, fun p l e => ?_⟩, ⟨sF, fun p l e => ?_, c.h0⟩, fun p l e => ?_⟩
  · unfold Pw.thin at e
    split at e
    · exact c.f _ _ e
    · rename_i us q
      rw [← e]; exact c.h0 _ _ q
    · exact c.h0 _ _ (w.f _ _ e)
  · have e2 := w.h0 _ _ e'
    unfold Pw.thin at e
    rw [e2] at e
    split at e
    · rename_i q; cases q
    · cases e
    · exact w.nw a xs o' e e'
  · unfold mrg at e
    split at e
    · rename_i l' h
      obtain ⟨h1, h2, vs, h3⟩ := w.om p _ h
      refine ⟨?_, h2, vs, c.h0 _ _ h3⟩
      unfold Pw.thin; rw [h3]; exact h1
    · obtain ⟨h1, h2, vs, h3⟩ := c.om p _ e
      have h2 : H p = none := h2
      refine ⟨?_, w.h0.free h2, vs, h3⟩
      unfold Pw.thin; rw [h2]; exact h1
  · unfold mrg; rw [e]
  · unfold mrg; rw [om' p l e]; exact e
end
section
variable {P : Px} {ds : List Nat} {pos p : Pos} {a b c e : Expr} {es : List Expr} {x : Str} {k n dr : Nat} {f : Addr} {fd : FuncData} {ps : List Str} {d : List PV → Rs PV} {fa : Env → Rs (List PV)}
/-- a def of the program as the rules use it -/
structure Fn (P : Program) (w : World) (K : PySem.W.Frag) (mg : Str → Option Value) (base : Heap) (x : Str) (k : Nat) (ps : List Str) (dr : Nat) (d : List PV → Rs PV) : Prop where
  ex : ∃ f fd, FnOk P w K mg base (L2.CX P w) k f fd ps (spD K mg ps.length dr d) ∧ mg x = some (.ref f) ∧ PySem.W.keepIn K (.ref f) = true ∧ Binds K fd ps []
theorem Fn.mono {P : Program} {w : World} {K : PySem.W.Frag} {mg : Str → Option Value} {base : Heap} {j : Nat} (F : Fn P w K mg base x j ps dr d) (h : j ≤ k) : Fn P w K mg base x k ps dr d :=
  let ⟨f, fd, F1, F2, F3, F4⟩ := F.ex
  ⟨f, fd, F1.mono h, F2, F3, F4⟩
theorem qe_fun (F : Fn P.X.prog P.X.w P.X.K P.X.mg P.X.base x k ps dr d) (hr : Room k P.X.A) (tk : Takes P.X P.W) (hg : Gl P.X x) (ha : QA P ds (e :: es) fa) (hn : (e :: es).length = ps.length := by rfl)
    (hdb : (x == ("__debug__" : Str)) = false := by decide) (he : starEach (e :: es) P.X.env = (false, eval e P.X.env) :: starEach es P.X.env := by rfl) (hpl : (backTo pos (starEach es P.X.env)).any (·.1) = false := by rfl) :
    QE P ds dr (.Call (.Name x p) (e :: es) [] pos) (eFun d fa) := by
  obtain ⟨f, fd, F1, F2, F3, F4⟩ := F.ex
  refine PE.imp (pe_callS F1 hr hg F2 F3 F4 (fun σ => passAt tk σ) ha.1 hdb he hpl) fun σ H Q ⟨F, ω, env, r, q⟩ => ?_
  cases hfa : fa env with
  | stuck => unfold eFun at q; rw [hfa] at q; exact q.elim
  | exc c => unfold eFun at q; rw [hfa] at q; exact ⟨F, ω, env, r, by rw [hfa]; exact q⟩
  | ok xs =>
    unfold eFun at q; rw [hfa] at q
    refine ⟨F, ω, env, r, ?_⟩
    rw [hfa]
    intro F1 ω1 H1 vs l1 w1 s1
    refine ⟨by rw [s1.length, ha.2 env xs hfa, hn], F1, xs, w1.f, s1, Rs.wp_mono (show (d xs).wp _ _ from q) (fun c z C H' m s => z C H' m (l1.h.trans s)) fun x hx F' ω' H' v c s fr => ?_⟩
    obtain ⟨w2, l2, l3⟩ := w1.call c
    exact hx F' _ H' v (l1.trans l2) w2 (s.mono l3) fun n p e => l1.h.free (fr n p e)
theorem qe_funB (F : Fn P.X.prog P.X.w P.X.K P.X.mg P.X.base x k ps dr d) (hr : Room k P.X.A) (tk : Takes P.X P.W) (hg : Gl P.X x) (ha : QR P ds (e :: es) fa) (hn : (e :: es).length = ps.length := by rfl)
    (hdb : (x == ("__debug__" : Str)) = false := by decide) (he : starEach (e :: es) P.X.env = (false, eval e P.X.env) :: starEach es P.X.env := by rfl) (hpl : (backTo pos (starEach es P.X.env)).any (·.1) = false := by rfl) :
    QE P ds dr (.Call (.Name x p) (e :: es) [] pos) (eFunB dr d fa) := by
  obtain ⟨f, fd, F1, F2, F3, F4⟩ := F.ex
  refine PE.imp (pe_callS F1 hr hg F2 F3 F4 (fun σ => passAt tk σ) ha.1 hdb he hpl) fun σ H Q ⟨F, ω, env, r, q⟩ => ?_
  cases hfa : fa env with
  | stuck => unfold eFunB at q; rw [hfa] at q; exact q.elim
  | exc c => unfold eFunB at q; rw [hfa] at q; exact ⟨F, ω, env, r, by rw [hfa]; exact q⟩
  | ok xs =>
    unfold eFunB at q; rw [hfa] at q
    refine ⟨F, ω, env, r, ?_⟩
    rw [hfa]
    intro F1 ω1 H1 vs l1 w1 s1
    refine ⟨by rw [s1.length, ha.2 env xs hfa, hn], H1, xs, .refl _, s1.all w1.f, Rs.wp_mono (Rs.wp_bind.mp (show ((d xs).bind _).wp _ _ from q)) (fun c z C H' m s => z C H' m (l1.h.trans s)) fun x hx F' ω' H' v c s fr => ?_⟩
    obtain ⟨hn, hx⟩ := ite_ok hx
    obtain ⟨w2, l2, l3⟩ := w1.thin c
    refine hx _ _ H' v (l1.trans l2) w2 ?_ fun n p e => l1.h.free (fr n p e)
    match dr, x, hn, s with
    | 0, x, hn, s => exact Rep.thin c.f0 hn s
    | 1, .lst xs, hn, ⟨p, vs, ys, e1, e2, e3, e4, e5⟩ =>
      cases e1
      exact ⟨p, vs, _, rfl, e2, e3, l3 _ _ e4, RepL.thin c.f0 hn e5⟩

theorem qe_glob {v : V} {u : Value} {y : PV} (hg : Gl P.X x) (hm : P.X.mg x = some u) (r : RelV v u) (hy : ∀ F, Rep P.X.K F y v) (hdb : (x == ("__debug__" : Str)) = false := by decide) : QE P ds 0 (.Name x pos) (eC y) :=
  PE.imp (pe_glob hg hm r hdb) fun σ H Q ⟨F, ω, env, r, q⟩ => Val.of0 q r.wd (hy F)

/-! ### targets -/
inductive Tg where
  | n (i : Nat) | t (ts : List Tg)
mutual
@[simp] def tgS : Tg → PV → Env → Rs Env
  | .n i, x, env => .ok (env.set i (some x))
  | .t ts, .tup xs, env => tgSs ts xs env
  | .t _, _, _ => .stuck
@[simp] def tgSs : List Tg → List PV → Env → Rs Env
  | [], [], env => .ok env
  | t :: ts, x :: xs, env => (tgS t x env).bind fun e => tgSs ts xs e
  | _, _, _ => .stuck
end
mutual
def tgI : Tg → List Nat
  | .n i => [i]
  | .t ts => tgIs ts
def tgIs : List Tg → List Nat
  | [] => []
  | t :: ts => tgI t ++ tgIs ts
end
/-- what a target does: slots of is alone change -/
def liftG (P : Px) (ds : List Nat) (g : PV → Env → Rs Env) (is : List Nat) : TG := fun v σ H Q => ∃ F ω env x, Rel P.X.K P.G ds F ω env σ H ∧ Rep P.X.K F x v ∧ (g x env).wp (fun _ => False) fun env' => ∀ σ', Rel P.X.K P.G ds F ω env' σ' H → (∀ j, j ∉ is → σ'[j]? = σ[j]?) → σ'.length = σ.length → Q σ' H
def liftGs (P : Px) (ds : List Nat) (g : List PV → Env → Rs Env) (is : List Nat) : TGs := fun vs σ H Q => ∃ F ω env xs, Rel P.X.K P.G ds F ω env σ H ∧ RepL P.X.K F xs vs ∧ (g xs env).wp (fun _ => False) fun env' => ∀ σ', Rel P.X.K P.G ds F ω env' σ' H → (∀ j, j ∉ is → σ'[j]? = σ[j]?) → σ'.length = σ.length → Q σ' H
def QG (P : Px) (ds : List Nat) (tg : Expr) (t : Tg) : Prop := PG P.X tg (liftG P ds (tgS t) (tgI t))
def QGs (P : Px) (ds : List Nat) (tgs : List Expr) (ts : List Tg) : Prop := PGs P.X tgs (liftGs P ds (tgSs ts) (tgIs ts))
theorem PG.imp {X : Cx} {tg : Expr} {t t' : TG} (h : PG X tg t) (i : ∀ v σ H Q, t' v σ H Q → t v σ H Q) : PG X tg t' := ⟨fun p s σ H v u Q I r q => h.run p s σ H v u Q I r (i _ _ _ _ q)⟩
theorem PGs.imp {X : Cx} {tgs : List Expr} {t t' : TGs} (h : PGs X tgs t) (i : ∀ v σ H Q, t' v σ H Q → t v σ H Q) : PGs X tgs t' := ⟨fun p s σ H v u Q I r q => h.run p s σ H v u Q I r (i _ _ _ _ q)⟩
/-- a slot is stored -/
theorem Rel.set {K : PySem.W.Frag} {G : Gh} {F F' : Hp} {ω ω' : Om} {env : Env} {σ : St} {H H' : Hp} {i d : Nat} {x : PV} {v : V} (r : Rel K G ds F ω env σ H) (l : Le F ω H F' ω' H') (w : Wd G F' ω' H') (s : Sl K F' ω' H' d x v)
    (fr : d = 1 ∨ d = 2 → ∀ p, v = .ref p → H p = none) : Rel K G (ds.set i d) F' ω' (env.set i (some x)) (σ.set i (some v)) H' ∨ ¬ i < ds.length := by
  by_cases hid : i < ds.length
  · left
    have hds : ∀ j, (ds.set i d).getD j 0 = if j = i then d else ds.getD j 0 := fun j => by
      rw [List.getD_eq_getElem?_getD, List.getD_eq_getElem?_getD]
      by_cases hj : j = i
      · subst hj; rw [if_pos rfl, List.getElem?_set_self hid]; rfl
      · rw [if_neg hj, List.getElem?_set_ne (Ne.symm hj)]
    have inv : ∀ {j : Nat} {y : PV}, (env.set i (some x))[j]? = some (some y) → (j = i ∧ y = x ∧ i < env.length) ∨ (j ≠ i ∧ env[j]? = some (some y)) := fun {j y} e => by
      by_cases hj : j = i
      · subst hj
        by_cases hl : j < env.length
        · rw [List.getElem?_set_self hl] at e; cases e; exact .inl ⟨rfl, rfl, hl⟩
        · rw [List.getElem?_eq_none (by simpa using hl)] at e; cases e
      · rw [List.getElem?_set_ne (Ne.symm hj)] at e; exact .inr ⟨hj, e⟩
    have owned : ∀ {j : Nat} {y : PV} {u : V}, (ds.getD j 0 = 1 ∨ ds.getD j 0 = 2) → env[j]? = some (some y) → σ[j]? = some (some u) → ∃ p vs, u = .ref p ∧ H p = some (.lst vs) := fun {j y u} hd e e2 => by
      obtain ⟨v', h1, h2⟩ := r.sl j y e
      rw [e2] at h1; cases h1
      obtain ⟨p, vs, h3, _, h4⟩ := Sl.top hd h2
      exact ⟨p, vs, h3, h4⟩
    refine ⟨w, fun j y e => ?_, fun j m y z u hjm hd1 hd2 e1 e2 e3 e4 => ?_, by rw [List.length_set, List.length_set]; exact r.ln⟩
    · rcases inv e with ⟨rfl, rfl, hl⟩ | ⟨hj, e⟩
      · exact ⟨v, by rw [List.getElem?_set_self (by rw [← r.ln]; exact hl)], by rw [hds, if_pos rfl]; exact s⟩
      · obtain ⟨u, h1, h2⟩ := r.sl j y e
        exact ⟨u, by rw [List.getElem?_set_ne (Ne.symm hj)]; exact h1, by rw [hds, if_neg hj]; exact h2.mono l⟩
    · rw [hds] at hd1 hd2
      rcases inv e1 with ⟨hj, hy, hl⟩ | ⟨hj, e1'⟩
      · rw [if_pos hj] at hd1
        rw [hj, List.getElem?_set_self (by rw [← r.ln]; exact hl)] at e3
        cases e3
        rcases inv e2 with ⟨hm, _⟩ | ⟨hm, e2'⟩
        · exact absurd (hj.trans hm.symm) hjm
        · rw [if_neg hm] at hd2
          rw [List.getElem?_set_ne (Ne.symm hm)] at e4
          obtain ⟨p, vs, h3, h4⟩ := owned hd2 e2' e4
          rw [fr hd1 p h3] at h4; cases h4
      · rw [if_neg hj] at hd1
        rw [List.getElem?_set_ne (Ne.symm hj)] at e3
        rcases inv e2 with ⟨hm, hy, hl⟩ | ⟨hm, e2'⟩
        · rw [if_pos hm] at hd2
          rw [hm, List.getElem?_set_self (by rw [← r.ln]; exact hl)] at e4
          cases e4
          obtain ⟨p, vs, h3, h4⟩ := owned hd1 e1' e3
          rw [fr hd2 p h3] at h4; cases h4
        · rw [if_neg hm] at hd2
          rw [List.getElem?_set_ne (Ne.symm hm)] at e4
          exact r.ap j m y z u hjm hd1 hd2 e1' e2' e3 e4
  · exact .inr hid
theorem Rel.set0 {K : PySem.W.Frag} {G : Gh} {F : Hp} {ω : Om} {env : Env} {σ : St} {H : Hp} {i : Nat} {x : PV} {v : V} (r : Rel K G ds F ω env σ H) (hd : ds.getD i 0 = 0) (s : Rep K F x v) : Rel K G ds F ω (env.set i (some x)) (σ.set i (some v)) H := by
  refine ⟨r.wd, fun j y e => ?_, fun j m y z u hjm hd1 hd2 e1 e2 e3 e4 => ?_, by rw [List.length_set, List.length_set]; exact r.ln⟩
  · by_cases hj : j = i
    · subst hj
      by_cases hl : j < env.length
      · rw [List.getElem?_set_self hl] at e; cases e
        exact ⟨v, by rw [List.getElem?_set_self (by rw [← r.ln]; exact hl)], by rw [hd]; exact s⟩
      · rw [List.getElem?_eq_none (by simpa using hl)] at e; cases e
    · rw [List.getElem?_set_ne (Ne.symm hj)] at e ⊢; exact r.sl j y e
  · have hj : j ≠ i := fun q => by subst q; omega
    have hm : m ≠ i := fun q => by subst q; omega
    rw [List.getElem?_set_ne (Ne.symm hj)] at e1 e3
    rw [List.getElem?_set_ne (Ne.symm hm)] at e2 e4
    exact r.ap j m y z u hjm hd1 hd2 e1 e2 e3 e4
theorem qg_n (i : Nat) {x : Str} (hd : ds.getD i 0 = 0 := by rfl) (hN : P.X.N.Nodup) (hi : P.X.N[i]? = some x := by rfl) (hx : Loc P.X.env.scope x := by first | exact Or.inl rfl | exact Or.inr rfl) (hf : P.X.fn x = true ∨ P.X.env.scope.names.lookup x = some .local := by first | exact .inl rfl | exact .inr rfl) : QG P ds (.Name x pos) (.n i) :=
  PG.imp (pg_name hN hi hx hf) fun v σ H Q ⟨F, ω, env, y, r, s, q⟩ => q _ (r.set0 hd s) (fun j hj => by rw [List.getElem?_set_ne (fun e => hj (by simp [tgI, e]))]) (by rw [List.length_set])
theorem qgs_nil : QGs P ds [] [] := PGs.imp pgs_nil fun vs σ H Q ⟨F, ω, env, xs, r, s, q⟩ => by
  cases xs with
  | nil => exact ⟨s, q σ r (fun _ _ => rfl) rfl⟩
  | cons _ _ => exact q.elim
theorem qgs_cons {tg : Expr} {tgs : List Expr} {t : Tg} {ts : List Tg} (h : QG P ds tg t) (k : QGs P ds tgs ts) (hs : (assignEach (tg :: tgs) P.X.env).map (·.2) = assign tg P.X.env :: (assignEach tgs P.X.env).map (·.2) := by rfl) : QGs P ds (tg :: tgs) (t :: ts) :=
  PGs.imp (pgs_cons h k hs) fun vs σ H Q ⟨F, ω, env, xs, r, s, q⟩ => by
    cases xs with
    | nil => exact q.elim
    | cons x xs =>
      obtain ⟨v, us, e, s1, s2⟩ := s
      refine ⟨v, us, e, F, ω, env, x, r, s1, ?_⟩
      have q : ((tgS t x env).bind fun e => tgSs ts xs e).wp _ _ := q
      refine Rs.wp_mono (Rs.wp_bind.mp q) (fun _ z => z) fun env1 h1 σ1 r1 n1 l1 => ⟨F, ω, env1, xs, r1, s2, Rs.wp_mono h1 (fun _ z => z) fun env2 h2 σ2 r2 n2 l2 => ?_⟩
      refine h2 σ2 r2 (fun j hj => ?_) (l2.trans l1)
      have hj : j ∉ tgI t ++ tgIs ts := hj
      rw [List.mem_append] at hj
      exact (n2 j fun z => hj (.inr z)).trans (n1 j fun z => hj (.inl z))
theorem qg_t {tgs : List Expr} {ts : List Tg} {k : Nat} (hc : P.X.calm = true) (h : QGs P ds tgs ts) (hn : (assignEach tgs P.X.env).length = ts.length := by rfl) (hst : (assignEach tgs P.X.env).findIdx? (·.1) = none := by rfl) : QG P ds (.Tuple tgs k pos) (.t ts) :=
  PG.imp (pg_tup hc h hn hst) fun v σ H Q ⟨F, ω, env, x, r, s, q⟩ => by
    cases x with
    | tup xs =>
      obtain ⟨a, vs, e1, e2, e3⟩ := s
      have q : (tgSs ts xs env).wp _ _ := q
      refine ⟨a, vs, e1, (e2.mono r.wd.f).sq, ?_, F, ω, env, xs, r, e3, q⟩
      rw [e3.length]
      have len : ∀ (ts : List Tg) (xs : List PV) (env : Env) {E : Str → Prop} {R : Env → Prop}, (tgSs ts xs env).wp E R → (∀ c, ¬ E c) → xs.length = ts.length := by
        intro ts
        induction ts with
        | nil => intro xs env E R h n; cases xs with
          | nil => rfl
          | cons _ _ => exact h.elim
        | cons t ts ih => intro xs env E R h n; cases xs with
          | nil => exact h.elim
          | cons x xs =>
            have h : ((tgS t x env).bind fun e => tgSs ts xs e).wp E R := h
            have h := Rs.wp_bind.mp h
            cases q : tgS t x env with
            | stuck => rw [q] at h; exact h.elim
            | exc c => rw [q] at h; exact (n c h).elim
            | ok e =>
              rw [q] at h
              rw [List.length_cons, List.length_cons, ih xs e h n]
      exact len ts xs env q fun _ z => z
    | _ => exact q.elim
end
end Pw

namespace Pw
open PySem L2
/-! ### what is walked -/
/-- J yields xs, while B stands -/
def ItOk (K : PySem.W.Frag) (F B : Hp) (J : It) (xs : List PV) : Prop := ∃ Gd Y, Walk J xs.length Gd Y ∧ (∀ H', Same B H' → Gd H') ∧
  ∀ i Hh v H' x, xs[i]? = some x → Same B Hh → Same F Hh → Y i Hh v H' → (H' = Hh ∧ Rep K F x v) ∨ ∃ T vs ys, v = .ref T ∧ Hh T = none ∧ H' = upd Hh T (.tup vs) ∧ x = .tup ys ∧ RepL K F ys vs
/-- bb: true where the walked list is frozen (a loop may change others), false where nothing may change -/
def liftI (P : Px) (ds : List Nat) (bb : Bool) (f : Env → Rs (List PV)) : TI := fun σ H R => ∃ F ω env, Rel P.X.K P.G ds F ω env σ H ∧ (f env).wp (fun c => ExcW P c σ H) fun xs => ∀ F' ω' H' J, Le F ω H F' ω' H' → Wd P.G F' ω' H' → ItOk P.X.K F' (if bb = true then F' else H') J xs → R J H'
def QI (P : Px) (ds : List Nat) (bb : Bool) (tg iter : Expr) (f : Env → Rs (List PV)) : Prop := PI P.X tg iter (liftI P ds bb f)
theorem PI.imp {X : Cx} {tg e : Expr} {t t' : TI} (h : PI X tg e t) (i : ∀ σ H Q, t' σ H Q → t σ H Q) : PI X tg e t' := ⟨fun p s σ H R I q => h.run p s σ H R I (i _ _ _ q)⟩
theorem PI.or {X : Cx} {tg e : Expr} {t t' : TI} (h : PI X tg e t) (k : PI X tg e t') : PI X tg e fun σ H R => t σ H R ∨ t' σ H R := ⟨fun p s σ H R I q => q.elim (h.run p s σ H R I) (k.run p s σ H R I)⟩
/-- the items of a list, a tuple -/
def oIter : PV → Rs (List PV)
  | .lst xs => .ok xs
  | .tup xs => .ok xs
  | .ro ns => .ok (ns.map PV.int)
  | _ => .stuck
@[simp] theorem oIter_r1 (xs : List PV) : oIter (.lst xs) = .ok xs := rfl
@[simp] theorem oIter_r2 (xs : List PV) : oIter (.tup xs) = .ok xs := rfl
@[simp] theorem oIter_r3 (ns : List Int) : oIter (.ro ns) = .ok (ns.map PV.int) := rfl
@[simp] def iE (f : Env → Rs PV) (env : Env) : Rs (List PV) := (f env).bind oIter
section
variable {P : Px} {ds : List Nat} {pos p : Pos} {tg a b c e : Expr} {es : List Expr} {x : Str}
theorem itl_ok {K : PySem.W.Frag} {F B : Hp} {a : Addr} {vs : List V} {xs : List PV} (hB : ∀ H', Same B H' → SqL K H' a vs) (r : RepL K F xs vs) : ItOk K F B (Itl K a) xs :=
  ⟨_, _, by rw [← r.length]; exact walk_list, hB, fun i Hh v H' x e _ _ y => .inl (by
    obtain ⟨u, h1, h2⟩ := r.get e
    obtain ⟨y1, y2⟩ := y
    have y2 : vs[i]? = some v := y2
    rw [h1] at y2; cases y2; exact ⟨y1, h2⟩)⟩
theorem itt_ok {K : PySem.W.Frag} {F B : Hp} {a : Addr} {vs : List V} {xs : List PV} (hB : ∀ H', Same B H' → SqT K H' a vs) (r : RepL K F xs vs) : ItOk K F B (Itt K a) xs :=
  ⟨_, _, by rw [← r.length]; exact walk_tup, hB, fun i Hh v H' x e _ _ y => .inl (by
    obtain ⟨u, h1, h2⟩ := r.get e
    obtain ⟨y1, y2⟩ := y
    have y2 : vs[i]? = some v := y2
    rw [h1] at y2; cases y2; exact ⟨y1, h2⟩)⟩
theorem Same.sqT {K : PySem.W.Frag} {H H' : Hp} {a : Addr} {xs : List V} (e : Same H H') (h : SqT K H a xs) : SqT K H' a xs := by
  rcases h with (h | ⟨o, h⟩) | h
  · exact .inl (.inl (e _ _ h))
  · exact .inl (.inr ⟨o, e _ _ h⟩)
  · exact .inr h
/-- over a frozen list or tuple -/
theorem qi_e {f : Env → Rs PV} (h : QE P ds 0 e f) : QI P ds true tg e (iE f) :=
  PI.imp (PI.or (pi_list h) (pi_tup h)) fun σ H R ⟨F, ω, env, r, q⟩ => by
    have q := Rs.wp_bind.mp q
    cases hf : f env with
    | stuck => rw [hf] at q; exact q.elim
    | exc c => rw [hf] at q; exact .inl ⟨F, ω, env, r, by rw [hf]; exact q⟩
    | ok x =>
      rw [hf] at q
      cases x with
      | lst xs =>
        refine .inl ⟨F, ω, env, r, ?_⟩
        rw [hf]
        intro F' ω' H' v l w s _
        obtain ⟨a, vs, e1, e2, rr⟩ := s
        exact ⟨a, e1, ⟨vs, SqL.of (w.f _ _ e2)⟩, q F' ω' H' _ l w (by rw [if_pos rfl]; exact itl_ok (fun H2 s2 => SqL.of (s2 _ _ e2)) rr)⟩
      | ro ns =>
        refine .inl ⟨F, ω, env, r, ?_⟩
        rw [hf]
        intro F' ω' H' v l w s _
        obtain ⟨a, e1, e2⟩ := s
        exact ⟨a, e1, ⟨_, w.f.seq e2⟩, q F' ω' H' _ l w (by rw [if_pos rfl]; exact itl_ok (fun H2 s2 => s2.seq e2) (RepL.of_ints _ _))⟩
      | tup xs =>
        refine .inr ⟨F, ω, env, r, ?_⟩
        rw [hf]
        intro F' ω' H' v l w s _
        obtain ⟨a, vs, e1, e2, rr⟩ := s
        exact ⟨a, e1, ⟨vs, (e2.mono w.f).sq⟩, q F' ω' H' _ l w (by rw [if_pos rfl]; exact itt_ok (fun H2 s2 => (e2.mono s2).sq) rr)⟩
      | _ => exact q.elim
/-- over a list that is read alone (comprehensions) -/
theorem qi_r {f : Env → Rs PV} (h : QE P ds 3 e f) : QI P ds false tg e (iE f) :=
  PI.imp (PI.or (pi_list h) (pi_tup h)) fun σ H R ⟨F, ω, env, r, q⟩ => by
    have q := Rs.wp_bind.mp q
    cases hf : f env with
    | stuck => rw [hf] at q; exact q.elim
    | exc c => rw [hf] at q; exact .inl ⟨F, ω, env, r, by rw [hf]; exact q⟩
    | ok x =>
      rw [hf] at q
      cases x with
      | lst xs =>
        refine .inl ⟨F, ω, env, r, ?_⟩
        rw [hf]
        intro F' ω' H' v l w s _
        obtain ⟨a, vs, e1, e2, rr⟩ := Rv.lst w s
        exact ⟨a, e1, ⟨vs, SqL.of e2⟩, q F' ω' H' _ l w (by rw [if_neg Bool.false_ne_true]; exact itl_ok (fun H2 s2 => SqL.of (s2 _ _ e2)) rr)⟩
      | ro ns =>
        refine .inl ⟨F, ω, env, r, ?_⟩
        rw [hf]
        intro F' ω' H' v l w s _
        obtain ⟨a, e1, e2⟩ := Rv.ro w s
        exact ⟨a, e1, ⟨_, e2⟩, q F' ω' H' _ l w (by rw [if_neg Bool.false_ne_true]; exact itl_ok (fun H2 s2 => s2.seq e2) (RepL.of_ints _ _))⟩
      | tup xs =>
        refine .inr ⟨F, ω, env, r, ?_⟩
        rw [hf]
        intro F' ω' H' v l w s _
        obtain ⟨a, vs, e1, e2, rr⟩ := Rv.tup w s
        exact ⟨a, e1, ⟨vs, e2.sq⟩, q F' ω' H' _ l w (by rw [if_neg Bool.false_ne_true]; exact itt_ok (fun H2 s2 => (e2.mono s2).sq) rr)⟩
      | _ => exact q.elim
/-- what is frozen does not change -/
theorem QI.wk {f : Env → Rs (List PV)} (h : QI P ds true tg e f) : QI P ds false tg e f :=
  PI.imp h fun σ H R ⟨F, ω, env, r, q⟩ => ⟨F, ω, env, r, Rs.wp_mono q (fun _ z => z) fun xs hx F' ω' H' J l w i => hx F' ω' H' J l w (by
    rw [if_neg Bool.false_ne_true]
    rw [if_pos rfl] at i
    obtain ⟨Gd, Y, h1, h2, h3⟩ := i
    exact ⟨Gd, Y, h1, fun H2 s => h2 H2 (w.f.trans s), fun i Hh v H2 x e s1 s2 y => h3 i Hh v H2 x e s2 s2 y⟩)⟩
/-! ranges -/
def rng (lo hi : Int) : List PV := (List.range (hi - lo).toNat).map fun k => PV.int (lo + (k : Nat))
@[simp] def iR (f : Env → Rs (List PV)) (env : Env) : Rs (List PV) := (f env).bind fun xs => match xs with
  | [.int j] => if j.natAbs < 4611686018427387904 then .ok (rng 0 j) else .stuck
  | [.int i, .int j] => if i.natAbs < 4611686018427387904 ∧ j.natAbs < 4611686018427387904 then .ok (rng i j) else .stuck
  | _ => .stuck
theorem rng_len (lo hi : Int) : (rng lo hi).length = (hi - lo).toNat := by unfold rng; rw [List.length_map, List.length_range]
theorem itr_ok {K : PySem.W.Frag} {F B : Hp} {lo hi : Int} : ItOk K F B (Itr lo (hi - lo).toNat) (rng lo hi) :=
  ⟨_, _, by rw [rng_len]; exact walk_range, fun _ _ => True.intro, fun i Hh v H' x e _ _ y => .inl (by
    obtain ⟨y1, y2⟩ := y
    unfold rng at e
    rw [List.getElem?_map] at e
    obtain ⟨k, h1, h2⟩ := Option.map_eq_some_iff.mp e
    obtain ⟨h3, h4⟩ := List.getElem?_eq_some_iff.mp h1
    rw [List.getElem_range] at h4
    subst h4 h2
    exact ⟨y1, y2⟩)⟩
theorem qi_range1 {f : Env → Rs (List PV)} (hg : Gl P.X "range") (hm : P.X.mg "range" = none) (ha : QR P ds [a] f) (hs : starEach [a] P.X.env = [(false, eval a P.X.env)] := by rfl) : QI P ds true tg (.Call (.Name "range" p) [a] [] pos) (iR f) :=
  PI.imp (pi_range1 hg hm ha.1 hs) fun σ H R ⟨F, ω, env, r, q⟩ => by
    have q := Rs.wp_bind.mp q
    cases hf : f env with
    | stuck => rw [hf] at q; exact q.elim
    | exc c => rw [hf] at q; exact ⟨F, ω, env, r, by rw [hf]; exact q⟩
    | ok xs =>
      have hl := ha.2 env xs hf
      rw [hf] at q
      match xs, hl with
      | [y], _ =>
        cases y <;> first | exact q.elim | skip
        rename_i j _
        obtain ⟨hz, q⟩ := ite_ok q
        have hz : -(2 ^ 62) ≤ j ∧ j < 2 ^ 62 := by omega
        refine ⟨F, ω, env, r, ?_⟩
        rw [hf]
        intro F' ω' H' vs l w s
        obtain ⟨v, rfl, q1⟩ := rv1 s
        refine ⟨j, by rw [q1.int], hz.1, hz.2, q F' ω' H' _ l w ?_⟩
        have e : j.toNat = (j - 0).toNat := by rw [Int.sub_zero]
        rw [e]; exact itr_ok
theorem qi_range2 {f : Env → Rs (List PV)} (hg : Gl P.X "range") (hm : P.X.mg "range" = none) (ha : QR P ds [a, b] f) (hs : starEach [a, b] P.X.env = [(false, eval a P.X.env), (false, eval b P.X.env)] := by rfl) (hs2 : starEach [b] P.X.env = [(false, eval b P.X.env)] := by rfl) :
    QI P ds true tg (.Call (.Name "range" p) [a, b] [] pos) (iR f) :=
  PI.imp (pi_range2 hg hm ha.1 hs hs2) fun σ H R ⟨F, ω, env, r, q⟩ => by
    have q := Rs.wp_bind.mp q
    cases hf : f env with
    | stuck => rw [hf] at q; exact q.elim
    | exc c => rw [hf] at q; exact ⟨F, ω, env, r, by rw [hf]; exact q⟩
    | ok xs =>
      have hl := ha.2 env xs hf
      rw [hf] at q
      match xs, hl with
      | [y, z], _ =>
        cases y <;> first | exact q.elim | skip
        rename_i i _
        cases z <;> first | exact q.elim | skip
        rename_i j _
        obtain ⟨⟨h1, h2⟩, q⟩ := ite_ok q
        have h1 : -(2 ^ 62) ≤ i ∧ i < 2 ^ 62 := by omega
        have h2 : -(2 ^ 62) ≤ j ∧ j < 2 ^ 62 := by omega
        refine ⟨F, ω, env, r, ?_⟩
        rw [hf]
        intro F' ω' H' vs l w s
        obtain ⟨v, u, rfl, q1, q2⟩ := rv2 s
        exact ⟨i, j, by rw [q1.int, q2.int], ⟨h1.1, h1.2, h2.1, h2.2⟩, q F' ω' H' _ l w itr_ok⟩
/-! enumerate, zip, reversed -/
def enm (xs : List PV) : List PV := xs.zipIdx.map fun y => .tup [.int (y.2 : Nat), y.1]
@[simp] def iEn (f : Env → Rs (List PV)) (env : Env) : Rs (List PV) := (f env).bind fun xs => match xs with
  | [.lst ys] => .ok (enm ys)
  | _ => .stuck
def zp (xs ys : List PV) : List PV := (xs.zip ys).map fun y => .tup [y.1, y.2]
@[simp] def iZp (f : Env → Rs (List PV)) (env : Env) : Rs (List PV) := (f env).bind fun xs => match xs with
  | [.lst xs, .lst ys] => .ok (zp xs ys)
  | _ => .stuck
@[simp] def iRv (f : Env → Rs (List PV)) (env : Env) : Rs (List PV) := (f env).bind fun xs => match xs with
  | [.lst ys] => .ok ys.reverse
  | _ => .stuck
theorem enm_len (xs : List PV) : (enm xs).length = xs.length := by unfold enm; simp
theorem ite_ok' {K : PySem.W.Frag} {F B : Hp} {a : Addr} {vs : List V} {xs : List PV} (hB : ∀ H', Same B H' → SqL K H' a vs) (r : RepL K F xs vs) : ItOk K F B (Ite K a) (enm xs) :=
  ⟨_, _, by rw [enm_len, ← r.length]; exact walk_enum, hB, fun i Hh v H' x e _ _ yy => .inr (by
    obtain ⟨T, y, z, h1, h2, h3, h4, h5⟩ := yy
    unfold enm at e
    rw [List.getElem?_map, List.getElem?_zipIdx] at e
    cases q : xs[i]? with
    | none => rw [q] at e; cases e
    | some y' =>
      rw [q] at e
      cases e
      obtain ⟨u, k1, k2⟩ := r.get q
      have h5 : vs[i]? = some z := h5
      rw [k1] at h5; cases h5
      cases h4
      exact ⟨T, _, _, h1, h2, h3, rfl, _, _, rfl, by simp; rfl, RepL.cons k2 rfl⟩)⟩
theorem zip_ok {K : PySem.W.Frag} {F B : Hp} {a b : Addr} {vs us : List V} {xs ys : List PV} (hB : ∀ H', Same B H' → SqL K H' a vs ∧ SqL K H' b us) (r : RepL K F xs vs) (r2 : RepL K F ys us) : ItOk K F B (Itz K a b) (zp xs ys) :=
  ⟨_, _, by
    have e : (zp xs ys).length = min vs.length us.length := by unfold zp; rw [List.length_map, List.length_zip, r.length, r2.length]
    rw [e]; exact walk_zip rfl, hB, fun i Hh v H' x e _ _ yy => .inr (by
    obtain ⟨T, y, z, h1, h2, h3, h4, h5⟩ := yy
    unfold zp at e
    rw [List.getElem?_map] at e
    obtain ⟨⟨y1, z1⟩, q1, q2⟩ := Option.map_eq_some_iff.mp e
    obtain ⟨q3, q4⟩ := List.getElem?_zip_eq_some.mp q1
    obtain ⟨u, k1, k2⟩ := r.get q3
    obtain ⟨u2, k3, k4⟩ := r2.get q4
    have h4 : vs[i]? = some y := h4
    have h5 : us[i]? = some z := h5
    rw [k1] at h4; cases h4
    rw [k3] at h5; cases h5
    subst q2
    exact ⟨T, _, _, h1, h2, h3, rfl, RepL.cons k2 (RepL.cons k4 rfl)⟩)⟩
theorem rev_ok {K : PySem.W.Frag} {F B : Hp} {a : Addr} {vs : List V} {xs : List PV} (hB : ∀ H', Same B H' → SqL K H' a vs) (r : RepL K F xs vs) : ItOk K F B (Itv K a vs.length) xs.reverse :=
  ⟨_, _, by rw [List.length_reverse, ← r.length]; exact walk_rev, hB, fun i Hh v H' x e _ _ y => .inl (by
    obtain ⟨y1, y2⟩ := y
    have hi : i < xs.length := by
      have := (List.getElem?_eq_some_iff.mp e).1
      rw [List.length_reverse] at this; exact this
    rw [List.getElem?_reverse hi] at e
    obtain ⟨u, k1, k2⟩ := r.get e
    rw [r.length] at y2
    rw [k1] at y2; cases y2
    exact ⟨y1, k2⟩)⟩
/-- one argument, of a list -/
theorem qi_1 {f : Env → Rs (List PV)} {g : List PV → List PV} {wi : TI} {J : Addr → List V → It} (h : PI P.X tg e wi) (hw : ∀ {σ H R}, liftB P ds f σ H (fun vs H1 => ∃ a ws, vs = [.ref a] ∧ SqL P.X.K H1 a ws ∧ R (J a ws) H1) → wi σ H R)
    (hJ : ∀ {F B : Hp} {a : Addr} {vs : List V} {xs : List PV}, (∀ H', Same B H' → SqL P.X.K H' a vs) → RepL P.X.K F xs vs → ItOk P.X.K F B (J a vs) (g xs)) : QI P ds false tg e (fun env => (f env).bind fun xs => match xs with | [.lst ys] => .ok (g ys) | _ => .stuck) :=
  PI.imp h fun σ H R ⟨F, ω, env, r, q⟩ => hw (liftB.to r (Rs.wp_bind.mp q) (fun _ z => z) fun xs hx F' ω' H' vs l w s => by
    split at hx
    · obtain ⟨v, rfl, q1⟩ := rv1 s
      obtain ⟨a, ws, rfl, e2, rr⟩ := q1.lst w
      exact ⟨a, ws, rfl, SqL.of e2, hx F' ω' H' _ l w (by rw [if_neg Bool.false_ne_true]; exact hJ (fun H2 s2 => SqL.of (s2 _ _ e2)) rr)⟩
    · exact hx.elim)
theorem qi_1z {f : Env → Rs (List PV)} {g : List PV → List PV} {wi : TI} {J : Addr → List V → It} (h : PI P.X tg e wi) (hw : ∀ {σ H R}, liftA P ds f σ H (fun vs H1 => ∃ a ws, vs = [.ref a] ∧ SqL P.X.K H1 a ws ∧ R (J a ws) H1) → wi σ H R)
    (hJ : ∀ {F B : Hp} {a : Addr} {vs : List V} {xs : List PV}, (∀ H', Same B H' → SqL P.X.K H' a vs) → RepL P.X.K F xs vs → ItOk P.X.K F B (J a vs) (g xs)) : QI P ds true tg e (fun env => (f env).bind fun xs => match xs with | [.lst ys] => .ok (g ys) | _ => .stuck) :=
  PI.imp h fun σ H R ⟨F, ω, env, r, q⟩ => hw (liftA.to r (Rs.wp_bind.mp q) (fun _ z => z) fun xs hx F' ω' H' vs l w s => by
    split at hx
    · obtain ⟨v, us, e0, ⟨a, ws, e1, e2, rr⟩, e3⟩ := s
      rw [show us = [] from e3] at e0
      subst e0 e1
      exact ⟨a, ws, rfl, SqL.of (w.f _ _ e2), hx F' ω' H' _ l w (by rw [if_pos rfl]; exact hJ (fun H2 s2 => SqL.of (s2 _ _ e2)) rr)⟩
    · exact hx.elim)
theorem qi_enum {f : Env → Rs (List PV)} {elts : List Expr} {kk : Nat} {tpos : Pos} (hg : Gl P.X "enumerate") (hm : P.X.mg "enumerate" = none) (ha : QA P ds [e] f) (hs : starEach [e] P.X.env = [(false, eval e P.X.env)] := by rfl) : QI P ds true (.Tuple elts kk tpos) (.Call (.Name "enumerate" p) [e] [] pos) (iEn f) :=
  qi_1z (g := enm) (J := fun a _ => Ite P.X.K a) (pi_enum hg hm ha.1 hs) (fun h => h) (fun hB r => ite_ok' hB r)
theorem qi_enumR {f : Env → Rs (List PV)} {elts : List Expr} {kk : Nat} {tpos : Pos} (hg : Gl P.X "enumerate") (hm : P.X.mg "enumerate" = none) (ha : QR P ds [e] f) (hs : starEach [e] P.X.env = [(false, eval e P.X.env)] := by rfl) : QI P ds false (.Tuple elts kk tpos) (.Call (.Name "enumerate" p) [e] [] pos) (iEn f) :=
  qi_1 (g := enm) (J := fun a _ => Ite P.X.K a) (pi_enum hg hm ha.1 hs) (fun h => h) (fun hB r => ite_ok' hB r)
theorem qi_rev {f : Env → Rs (List PV)} (hg : Gl P.X "reversed") (hm : P.X.mg "reversed" = none) (ha : QA P ds [e] f) (hs : starEach [e] P.X.env = [(false, eval e P.X.env)] := by rfl) : QI P ds true tg (.Call (.Name "reversed" p) [e] [] pos) (iRv f) :=
  qi_1z (g := List.reverse) (J := fun a ws => Itv P.X.K a ws.length) (pi_reversed hg hm ha.1 hs) (fun h => h) (fun hB r => rev_ok hB r)
theorem qi_zip {f : Env → Rs (List PV)} {elts : List Expr} {kk : Nat} {tpos : Pos} (hg : Gl P.X "zip") (hm : P.X.mg "zip" = none) (ha : QA P ds [a, b] f) (hs : starEach [a, b] P.X.env = (false, eval a P.X.env) :: starEach [b] P.X.env := by rfl) (hpl : (backTo pos (starEach [b] P.X.env)).any (·.1) = false := by rfl) :
    QI P ds true (.Tuple elts kk tpos) (.Call (.Name "zip" p) [a, b] [] pos) (iZp f) :=
  PI.imp (pi_zip hg hm ha.1 hs hpl) fun σ H R ⟨F, ω, env, r, q⟩ => liftA.to r (Rs.wp_bind.mp q) (fun _ z => z) fun xs hx F' ω' H' vs l w s => by
    split at hx
    · obtain ⟨v, us, e0, ⟨a, ws, e1, e2, rr⟩, v2, us2, e3, ⟨b, ws2, e4, e5, rr2⟩, e6⟩ := s
      rw [show us2 = [] from e6] at e3
      subst e3 e4 e0 e1
      exact ⟨a, b, ws, ws2, rfl, SqL.of (w.f _ _ e2), SqL.of (w.f _ _ e5), hx F' ω' H' _ l w (by rw [if_pos rfl]; exact zip_ok (fun H2 s2 => ⟨SqL.of (s2 _ _ e2), SqL.of (s2 _ _ e5)⟩) rr rr2)⟩
    · exact hx.elim
theorem qi_zipR {f : Env → Rs (List PV)} {elts : List Expr} {kk : Nat} {tpos : Pos} (hg : Gl P.X "zip") (hm : P.X.mg "zip" = none) (ha : QR P ds [a, b] f) (hs : starEach [a, b] P.X.env = (false, eval a P.X.env) :: starEach [b] P.X.env := by rfl) (hpl : (backTo pos (starEach [b] P.X.env)).any (·.1) = false := by rfl) :
    QI P ds false (.Tuple elts kk tpos) (.Call (.Name "zip" p) [a, b] [] pos) (iZp f) :=
  PI.imp (pi_zip hg hm ha.1 hs hpl) fun σ H R ⟨F, ω, env, r, q⟩ => liftB.to r (Rs.wp_bind.mp q) (fun _ z => z) fun xs hx F' ω' H' vs l w s => by
    split at hx
    · obtain ⟨v, u, rfl, q1, q2⟩ := rv2 s
      obtain ⟨a, ws, rfl, e2, rr⟩ := q1.lst w
      obtain ⟨b, ws2, rfl, e5, rr2⟩ := q2.lst w
      exact ⟨a, b, ws, ws2, rfl, SqL.of e2, SqL.of e5, hx F' ω' H' _ l w (by rw [if_neg Bool.false_ne_true]; exact zip_ok (fun H2 s2 => ⟨SqL.of (s2 _ _ e2), SqL.of (s2 _ _ e5)⟩) rr rr2)⟩
    · exact hx.elim

/-! ### comprehensions -/
@[simp] def wipeE (env : Env) : List Nat → Env
  | [] => env
  | v :: vs => (wipeE env vs).set v none
def compL (g : PV → Env → Rs Env) (tt : Env → Rs Bool) (fe : Env → Rs PV) (env : Env) : List PV → Rs (List PV)
  | [] => .ok []
  | x :: xs => (g x env).bind fun e => (tt e).bind fun k => if k = true then (fe e).bind fun y => (compL g tt fe env xs).bind fun ys => .ok (y :: ys) else compL g tt fe env xs
@[simp] def eLc (own : List Nat) (fi : Env → Rs (List PV)) (tg : Tg) (tt : Env → Rs Bool) (fe : Env → Rs PV) (env : Env) : Rs PV := (fi env).bind fun xs => if xs.length ≤ lim then (compL (tgS tg) tt fe (wipeE env own) xs).noexc.bind fun ys => .ok (.lst ys) else .stuck
def Px.blk (P : Px) (s : Shared) (H : Hp) (scope : Scope) (C : Addr) (cl : List (Str × Addr)) (fp : List Addr) : Px := { P with X := P.X.blk s H scope (compEnvC scope cl C P.X.env) fp, W := fun _ _ _ _ => False }
def QTs (P : Px) (ds : List Nat) (ifs : List Expr) (f : Env → Rs Bool) : Prop := PTs P.X ifs (liftT P ds f)
theorem PTs.imp {X : Cx} {ifs : List Expr} {t t' : TT} (h : PTs X ifs t) (i : ∀ σ H Q, t' σ H Q → t σ H Q) : PTs X ifs t' := ⟨fun p s σ H Q I q => h.run p s σ H Q I (i _ _ _ q)⟩
@[simp] def tYesD (_ : Env) : Rs Bool := .ok true
theorem qts_nil : QTs P ds [] tYesD := PTs.imp pts_nil fun σ H Q ⟨F, ω, env, r, q⟩ => q F ω H (.refl F ω H) r.wd
theorem qts_one {f : Env → Rs Bool} (h : QT P ds c f) : QTs P ds [c] f := pts_one h
theorem Rel.wipe {K : PySem.W.Frag} {G : Gh} {F : Hp} {ω : Om} {env : Env} {σ : St} {H : Hp} (r : Rel K G ds F ω env σ H) : ∀ vs : List Nat, Rel K G ds F ω (wipeE env vs) (L2.wipe σ vs) H
  | [] => r
  | v :: vs => by
    have r := Rel.wipe r vs
    have inv : ∀ {j : Nat} {y : PV}, ((wipeE env vs).set v none)[j]? = some (some y) → j ≠ v ∧ (wipeE env vs)[j]? = some (some y) := fun {j y} e => by
      by_cases hj : j = v
      · subst hj
        by_cases hl : j < (wipeE env vs).length
        · rw [List.getElem?_set_self hl] at e; cases e
        · rw [List.getElem?_eq_none (by simpa using hl)] at e; cases e
      · rw [List.getElem?_set_ne (Ne.symm hj)] at e; exact ⟨hj, e⟩
    refine ⟨r.wd, fun j y e => ?_, fun j m y z u hjm hd1 hd2 e1 e2 e3 e4 => ?_, ?_⟩
    · obtain ⟨hj, e⟩ := inv e
      obtain ⟨u, h1, h2⟩ := r.sl j y e
      exact ⟨u, (List.getElem?_set_ne (Ne.symm hj)).trans h1, h2⟩
    · obtain ⟨hj, e1⟩ := inv e1
      obtain ⟨hm, e2⟩ := inv e2
      exact r.ap j m y z u hjm hd1 hd2 e1 e2 ((List.getElem?_set_ne (Ne.symm hj)).symm.trans e3) ((List.getElem?_set_ne (Ne.symm hm)).symm.trans e4)
    · show ((wipeE env vs).set v none).length = ((L2.wipe σ vs).set v none).length
      rw [List.length_set, List.length_set]; exact r.ln
theorem wipe_get {σ σ' : St} (hl : σ'.length = σ.length) : ∀ {vs : List Nat}, (∀ j, j ∉ vs → σ'[j]? = σ[j]?) → wipe σ' vs = wipe σ vs := fun {vs} h => by
  have key : ∀ (τ : St) (vs : List Nat) (j : Nat), (wipe τ vs)[j]? = if j ∈ vs ∧ j < τ.length then some none else τ[j]? := by
    intro τ vs
    induction vs with
    | nil => intro j; simp [wipe]
    | cons v vs ih =>
      intro j
      show ((wipe τ vs).set v none)[j]? = _
      by_cases hj : v = j
      · subst hj
        by_cases hl : v < τ.length
        · rw [List.getElem?_set_self (by rw [wipe_length]; exact hl), if_pos ⟨List.mem_cons_self, hl⟩]
        · rw [if_neg (fun z => hl z.2), List.getElem?_eq_none (by rw [List.length_set, wipe_length]; omega), List.getElem?_eq_none (by omega)]
      · rw [List.getElem?_set_ne hj, ih j]
        by_cases hm : j ∈ vs ∧ j < τ.length
        · rw [if_pos hm, if_pos ⟨List.mem_cons_of_mem _ hm.1, hm.2⟩]
        · rw [if_neg hm, if_neg fun z => hm ⟨(List.mem_cons.mp z.1).resolve_left (fun e => hj e.symm), z.2⟩]
  refine List.ext_getElem? fun j => ?_
  rw [key, key, hl]
  by_cases hm : j ∈ vs
  · by_cases hj : j < σ.length
    · rw [if_pos ⟨hm, hj⟩, if_pos ⟨hm, hj⟩]
    · rw [if_neg (fun z => hj z.2), if_neg (fun z => hj z.2), List.getElem?_eq_none (by omega), List.getElem?_eq_none (by omega)]
  · rw [if_neg (fun z => hm z.1), if_neg (fun z => hm z.1), h j hm]
theorem wipe_wipe (σ : St) (vs : List Nat) : wipe (wipe σ vs) vs = wipe σ vs := by
  have sub : ∀ (ws : List Nat) (j : Nat), j ∉ ws → (wipe σ ws)[j]? = σ[j]? := by
    intro ws
    induction ws with
    | nil => intro j _; rfl
    | cons w ws ih =>
      intro j hj
      show ((wipe σ ws).set w none)[j]? = _
      rw [List.getElem?_set_ne (fun e => hj (by simp [e])), ih j fun z => hj (List.mem_cons_of_mem _ z)]
  exact wipe_get (wipe_length σ vs) fun j hj => sub vs j hj
/-- an item that was yielded stands in the frozen part -/
theorem ItOk.yld {P : Px} {F0 F : Hp} {ω : Om} {H Hn : Hp} {v : V} {x : PV} (w : Wd P.G F ω H) (sf : Same F0 F) (h : (Hn = H ∧ Rep P.X.K F0 x v) ∨ ∃ T vs ys, v = .ref T ∧ H T = none ∧ Hn = upd H T (.tup vs) ∧ x = .tup ys ∧ RepL P.X.K F0 ys vs) :
    ∃ F', Wd P.G F' ω Hn ∧ Le F ω H F' ω Hn ∧ Rep P.X.K F' x v := by
  rcases h with ⟨rfl, h⟩ | ⟨T, vs, ys, rfl, h2, rfl, rfl, h⟩
  · exact ⟨F, w, .refl F ω Hn, h.mono sf⟩
  · obtain ⟨w', l⟩ := w.frz (o := .tup vs) h2
    exact ⟨_, w', l, T, vs, rfl, .inl upd_same, h.mono (sf.trans l.f)⟩
theorem Wd.mut {G : Gh} {F : Hp} {ω : Om} {H : Hp} {p : Addr} {l : Addr × Option Nat} {vs : List V} (w : Wd G F ω H) (h : ω p = some l) : Wd G F ω (upd H p (.lst vs)) := by
  obtain ⟨h1, h2, us, h3⟩ := w.om p l h
  refine ⟨fun b u e => ?_, w.f0, fun b u e => ?_, w.nw, fun q l' e => ?_⟩
  · rw [upd_ne (ne_of_none e h2)]; exact w.h0 b u e
  · rw [upd_ne (ne_of_none e h1)]; exact w.f b u e
  · obtain ⟨k1, k2, ws, k3⟩ := w.om q l' e
    by_cases hq : q = p
    · subst hq; exact ⟨k1, k2, vs, upd_same⟩
    · exact ⟨k1, k2, ws, by rw [upd_ne hq]; exact k3⟩
/-- an owned list is frozen -/
theorem Wd.freeze {G : Gh} {F : Hp} {ω : Om} {H : Hp} {p : Addr} {l : Addr × Option Nat} {vs : List V} (w : Wd G F ω H) (h : ω p = some l) (hH : H p = some (.lst vs)) : Wd G (upd F p (.lst vs)) (fun q => if q = p then none else ω q) H ∧ Same F (upd F p (.lst vs)) := by
  obtain ⟨h1, h2, us, h3⟩ := w.om p l h
  have sf : Same F (upd F p (.lst vs)) := fun b u e => by rw [upd_ne (ne_of_none e h1)]; exact e
  refine ⟨⟨w.h0, w.f0.trans sf, fun b u e => ?_, fun a xs o' e e' => ?_, fun q l' e => ?_⟩, sf⟩
  · by_cases hb : b = p
    · subst hb; rw [upd_same] at e; rw [hH]; exact e
    · rw [upd_ne hb] at e; exact w.f b u e
  · by_cases hb : a = p
    · subst hb; rw [h2] at e'; cases e'
    · rw [upd_ne hb] at e; exact w.nw a xs o' e e'
  · by_cases hq : q = p
    · rw [if_pos hq] at e; cases e
    · rw [if_neg hq] at e
      obtain ⟨k1, k2, ws, k3⟩ := w.om q l' e
      exact ⟨by rw [upd_ne hq]; exact k1, k2, ws, k3⟩
theorem lc_to {own : List Nat} {d : Nat} (hd : d ≤ 1) {fi : Env → Rs (List PV)} {tgt : Tg} {tt : Env → Rs Bool} {fe : Env → Rs PV} (hsub : ∀ j ∈ tgI tgt, j ∈ own) {σ : St} {H : Hp} {Q : VK} {bb : Bool}
    (h : lift P ds d (eLc own fi tgt tt fe) σ H Q) :
    tLc (liftI P ds bb fi) (liftG P ds (tgS tgt) (tgI tgt)) (liftT { P with W := fun _ _ _ _ => False } ds tt) (lift { P with W := fun _ _ _ _ => False } ds 0 fe) own σ H Q := by
  obtain ⟨F, ω, env, r, q⟩ := h
  refine ⟨F, ω, env, r, Rs.wp_mono (Rs.wp_bind.mp q) (fun _ z => z) fun xs hx F1 ω1 H1 J l1 w1 it D hD => ?_⟩
  by_cases hz : xs.length ≤ lim
  case neg => rw [if_neg hz] at hx; exact hx.elim
  rw [if_pos hz] at hx
  obtain ⟨Gd, Y, W, hG, hY⟩ := it
  have hx : (compL (tgS tgt) tt fe (wipeE env own) xs).wp (fun _ => False) fun ys => Val P d F ω H (.lst ys) Q := noexc_wp (Rs.wp_bind.mp hx)
  have r1 := (r.mono l1 w1).wipe own
  have sB : ∀ {H' : Hp}, Same H1 H' → Same (if bb = true then F1 else H1) H' := fun {H'} s => by
    cases bb
    · exact s
    · exact w1.f.trans s
  have nD : ω1 D = none := by
    cases q : ω1 D with
    | none => rfl
    | some l => obtain ⟨_, _, vs, h3⟩ := w1.om D l q; rw [hD] at h3; cases h3
  refine lc_it W (fun i H' => ∃ F' ω' acc vs, Le F1 ω1 H1 F' ω' H' ∧ Wd P.G F' ω' H' ∧ ω' D = some (D, none) ∧ H' D = some (.lst vs) ∧ RepL P.X.K F' acc vs ∧ acc.length ≤ i ∧
      (compL (tgS tgt) tt fe (wipeE env own) (xs.drop i)).wp (fun _ => False) fun ys => Val P d F ω H (.lst (acc ++ ys)) Q) ?_ (fun i H' _ ⟨F', ω', acc, vs, l', _⟩ => hG H' (sB l'.h)) ?_ ?_
  · obtain ⟨w2, l2⟩ := w1.own (vs := []) hD
    exact ⟨F1, _, [], [], l2, w2, if_pos rfl, upd_same, rfl, Nat.le_refl _, by rw [List.drop_zero]; exact hx⟩
  · rintro i v H2 H3 hi ⟨F', ω', acc, vs, l', w', oD, hHD, ra, hacc, hc⟩ hy
    have ex : xs[i]? = some xs[i] := by simp [hi]
    obtain ⟨F2, w2, l2, rv⟩ := ItOk.yld w' l'.f (hY i H2 v H3 xs[i] ex (sB l'.h) (l'.f.trans w'.f) hy)
    rw [List.drop_eq_getElem_cons hi] at hc
    have hc : ((tgS tgt xs[i] (wipeE env own)).bind fun e => (tt e).bind fun k => if k = true then (fe e).bind fun y => (compL (tgS tgt) tt fe (wipeE env own) (xs.drop (i + 1))).bind fun ys => .ok (y :: ys) else compL (tgS tgt) tt fe (wipeE env own) (xs.drop (i + 1))).wp (fun _ => False) fun ys => Val P d F ω H (.lst (acc ++ ys)) Q := hc
    have l3 := l'.trans l2
    refine ⟨F2, ω', _, xs[i], r1.mono l3 w2, rv, Rs.wp_mono (Rs.wp_bind.mp hc) (fun _ z => z) fun env2 hc2 σ2 r2 n2 len2 => ⟨?_, ?_⟩⟩
    · rw [wipe_get (vs := own) (len2.trans rfl) (fun j hj => n2 j fun z => hj (hsub j z)), wipe_wipe]
    · refine ⟨F2, ω', env2, r2, Rs.wp_mono (Rs.wp_bind.mp hc2) (fun _ z => z.elim) fun k hk F4 ω4 H4 l4 w4 => ?_⟩
      have r4 := r2.mono l4 w4
      have l5 := l3.trans l4
      cases k with
      | false =>
        rw [if_neg Bool.false_ne_true] at hk
        exact iteF ⟨F4, ω4, acc, vs, l5, w4, l4.o _ _ oD, l4.h _ _ (l2.h _ _ hHD), (ra.mono l2.f).mono l4.f, Nat.le_succ_of_le hacc, hk⟩
      | true =>
        rw [if_pos rfl] at hk
        refine iteT ⟨F4, ω4, env2, r4, Rs.wp_mono (Rs.wp_bind.mp hk) (fun _ z => z.elim) fun y hk F5 ω5 H5 u l6 w5 s5 _ => ?_⟩
        have s5 : Rep P.X.K F5 y u := s5
        have oD5 := l6.o _ _ (l4.o _ _ oD)
        have hD5 := l6.h _ _ (l4.h _ _ (l2.h _ _ hHD))
        have ra5 := ((ra.mono l2.f).mono l4.f).mono l6.f
        have l7 := l5.trans l6
        refine ⟨vs, hD5, ?_, F5, ω5, acc ++ [y], vs ++ [u], ⟨l7.f, l7.o, fun b o e => ?_⟩, w5.mut oD5, oD5, upd_same, ra5.append (RepL.cons s5 rfl), ?_, ?_⟩
        · rw [lim_eq, ra5.length]; omega
        · rw [upd_ne (ne_of_none e hD)]; exact l7.h b o e
        · rw [List.length_append, List.length_singleton]; omega
        · refine Rs.wp_mono (Rs.wp_bind.mp hk) (fun _ z => z) fun ys hys => ?_
          rw [List.append_assoc]; exact hys
  · rintro H2 ⟨F', ω', acc, vs, l', w', oD, hHD, ra, hacc, hc⟩
    rw [List.drop_length] at hc
    have hc : Val P d F ω H (.lst (acc ++ [])) Q := hc
    rw [List.append_nil] at hc
    have fr : ∀ p, V.ref D = .ref p → H p = none := fun p e => by cases e; exact l1.h.free hD
    match d, hd with
    | 1, _ => exact hc F' ω' H2 _ (l1.trans l') w' ⟨D, vs, acc, rfl, rfl, hHD, oD, ra⟩ fun _ => fr
    | 0, _ =>
      obtain ⟨w2, sf⟩ := w'.freeze oD hHD
      refine hc _ _ H2 _ ⟨l1.f.trans (l'.f.trans sf), fun p l e => ?_, l1.h.trans l'.h⟩ w2 ⟨D, vs, rfl, upd_same, ra.mono sf⟩ (by omega)
      have e1 := l1.o _ _ e
      have hp : p ≠ D := fun z => by rw [z, nD] at e1; cases e1
      show (if p = D then none else ω' p) = some l
      rw [if_neg hp]; exact l'.o _ _ e1
/-- [elt for tg in iter if ..] -/
theorem qe_lc {d : Nat} (hd : d ≤ 1) {iter elt : Expr} {ifs : List Expr} {scope : Scope} {own : List (Str × Nat)} {bb : Bool} {fi : Env → Rs (List PV)} {tgt : Tg} {tt : Env → Rs Bool} {fe : Env → Rs PV} (hc : P.X.calm = true) (hN : P.X.N.Nodup) (hi : QI P ds bb tg iter fi)
    (ok : BlkOk P.X.N P.X.env.scope scope own) (hsub : ∀ j ∈ tgI tgt, j ∈ own.map (·.2)) (hg : ∀ (s : Shared) (H : Hp) (C : Addr) (cl : List (Str × Addr)) (fp : List Addr), QG (P.blk s H scope C cl fp) ds tg tgt) (ht : ∀ (s : Shared) (H : Hp) (C : Addr) (cl : List (Str × Addr)) (fp : List Addr), QTs (P.blk s H scope C cl fp) ds ifs tt)
    (he : ∀ (s : Shared) (H : Hp) (C : Addr) (cl : List (Str × Addr)) (fp : List Addr), QE (P.blk s H scope C cl fp) ds 0 elt fe) (hs : ∀ x, foldedSetIterable iter P.X.env x = pure x := by intro _; rfl) :
    QE P ds d (.ListComp elt [⟨tg, iter, ifs, 0⟩] scope pos) (eLc (own.map (·.2)) fi tgt tt fe) :=
  PE.imp (pe_lc (g := liftG P ds (tgS tgt) (tgI tgt)) (tt := liftT { P with W := fun _ _ _ _ => False } ds tt) (te := lift { P with W := fun _ _ _ _ => False } ds 0 fe) hc hN hi ok hg ht he hs) fun σ H Q h => lc_to hd hsub h
end
end Pw

namespace Pw
open PySem L2
theorem SOk.mono {P : Px} {ds : List Nat} {D : Ends} {F F' : Hp} (f : Same F F') : ∀ {o : Out}, SOk P ds D F o → SOk P ds D F' o
  | .nx _, h => fun F2 ω σ H s r => h F2 ω σ H (f.trans s) r
  | .rt _, h => h
theorem liftS.to {P : Px} {ds ds' : List Nat} {f : Env → Rs Out} {F F0 : Hp} {ω : Om} {env : Env} {σ : St} {H : Hp} {D : Ends} (r : Rel P.X.K P.G ds F ω env σ H) (sf : Same F0 F) (h : (f env).wp (ExcS P) (SOk P ds' D F0)) : liftS P ds ds' f D σ H :=
  ⟨F, ω, env, r, Rs.wp_mono h (fun _ z => z) fun _ z => z.mono sf⟩
section
variable {P : Px} {ds ds1 ds' : List Nat} {pos : Pos} {st : Stmt} {sts : List Stmt} {e : Expr} {d : Nat}
@[simp] def sNil (env : Env) : Rs Out := .ok (.nx env)
/-- then: what follows a statement -/
def thn (r : Rs Out) (g : Env → Rs Out) : Rs Out := r.bind fun o => match o with
  | .nx e => g e
  | .rt x => .ok (.rt x)
@[simp] theorem thn_nx (e : Env) (g : Env → Rs Out) : thn (.ok (.nx e)) g = g e := rfl
@[simp] theorem thn_rt (x : PV) (g : Env → Rs Out) : thn (.ok (.rt x)) g = .ok (.rt x) := rfl
@[simp] theorem thn_stuck (g : Env → Rs Out) : thn .stuck g = .stuck := rfl
@[simp] theorem thn_exc (c : Str) (g : Env → Rs Out) : thn (.exc c) g = .exc c := rfl
@[simp] def sSeq (f g : Env → Rs Out) (env : Env) : Rs Out := thn (f env) g
@[simp] theorem thn_thn (r : Rs Out) (g h : Env → Rs Out) : thn (thn r g) h = thn r (sSeq g h) := by
  rcases r with _ | _ | o
  · rfl
  · rfl
  · cases o <;> rfl
theorem qb_nil : QB P ds [] ds sNil := PSs.imp pss_nil fun D σ H ⟨F, ω, env, r, q⟩ => q F ω σ H (.refl F) r
theorem qb_cons {f g : Env → Rs Out} (h : QS P ds st ds1 f) (k : QB P ds1 sts ds' g) : QB P ds (st :: sts) ds' (sSeq f g) :=
  PSs.imp (pss_cons h k) fun D σ H ⟨F, ω, env, r, q⟩ => by
    refine ⟨F, ω, env, r, Rs.wp_mono (Rs.wp_bind.mp q) (fun _ z => z) fun o ho => ?_⟩
    cases o with
    | nx e => exact fun F2 ω2 σ2 H2 s r2 => liftS.to r2 s ho
    | rt x => exact ho
/-- an owned slot is frozen -/
theorem Rel.freeze {K : PySem.W.Frag} {G : Gh} {F : Hp} {ω : Om} {env : Env} {σ : St} {H : Hp} (r : Rel K G ds F ω env σ H) (i : Nat) (hd : ds.getD i 0 ≤ 1) : ∃ F' ω', Same F F' ∧ Rel K G (ds.set i 0) F' ω' env σ H := by
  have hds : ∀ j, (ds.set i 0).getD j 0 = if j = i then 0 else ds.getD j 0 := fun j => by
    rw [List.getD_eq_getElem?_getD, List.getD_eq_getElem?_getD]
    by_cases hj : j = i
    · subst hj
      rw [if_pos rfl]
      by_cases hl : j < ds.length
      · rw [List.getElem?_set_self hl]; rfl
      · rw [List.getElem?_eq_none (by rw [List.length_set]; omega)]; rfl
    · rw [if_neg hj, List.getElem?_set_ne (Ne.symm hj)]
  have ap' : ∀ a b x y v, a ≠ b → ((ds.set i 0).getD a 0 = 1 ∨ (ds.set i 0).getD a 0 = 2) → ((ds.set i 0).getD b 0 = 1 ∨ (ds.set i 0).getD b 0 = 2) → env[a]? = some (some x) → env[b]? = some (some y) → σ[a]? = some (some v) → σ[b]? ≠ some (some v) := fun a b x y v hab h1 h2 => by
    rw [hds] at h1 h2
    by_cases ha : a = i
    · rw [if_pos ha] at h1; omega
    · by_cases hb : b = i
      · rw [if_pos hb] at h2; omega
      · rw [if_neg ha] at h1; rw [if_neg hb] at h2; exact r.ap a b x y v hab h1 h2
  by_cases h1 : ds.getD i 0 = 0
  · refine ⟨F, ω, .refl F, r.wd, fun j x e => ?_, ap', r.ln⟩
    obtain ⟨v, q1, q2⟩ := r.sl j x e
    refine ⟨v, q1, ?_⟩
    rw [hds]
    by_cases hj : j = i
    · subst hj; rw [if_pos rfl]; rw [h1] at q2; exact q2
    · rw [if_neg hj]; exact q2
  · have h1 : ds.getD i 0 = 1 := by omega
    cases he : (env[i]?).join with
    | none =>
      have he : ∀ x, env[i]? ≠ some (some x) := fun x q => by rw [q] at he; cases he
      refine ⟨F, ω, .refl F, r.wd, fun j x e => ?_, ap', r.ln⟩
      obtain ⟨v, q1, q2⟩ := r.sl j x e
      refine ⟨v, q1, ?_⟩
      rw [hds]
      by_cases hj : j = i
      · subst hj; exact absurd e (he x)
      · rw [if_neg hj]; exact q2
    | some x =>
      have he : env[i]? = some (some x) := by
        cases q : env[i]? with
        | none => rw [q] at he; cases he
        | some y => rw [q] at he; rw [show y = some x from he]
      obtain ⟨v, q1, q2⟩ := r.sl i x he
      rw [h1] at q2
      obtain ⟨p, vs, xs, e1, e2, e3, e4, e5⟩ := q2
      obtain ⟨w2, sf⟩ := r.wd.freeze e4 e3
      refine ⟨_, _, sf, w2, fun j y e => ?_, ap', r.ln⟩
      obtain ⟨u, k1, k2⟩ := r.sl j y e
      refine ⟨u, k1, ?_⟩
      rw [hds]
      by_cases hj : j = i
      · subst hj
        rw [if_pos rfl]
        rw [he] at e; cases e
        rw [q1] at k1; cases k1
        rw [e1]
        exact ⟨p, vs, e2, upd_same, e5.mono sf⟩
      · rw [if_neg hj]
        have notp : ∀ {q : Addr} {l : Addr × Option Nat}, ω q = some l → q ≠ p → (fun q => if q = p then none else ω q) q = some l := fun {q l} a b => by
          show (if q = p then none else ω q) = some l
          rw [if_neg b]; exact a
        match hd2 : ds.getD j 0, k2 with
        | 0, k2 => exact Rep.mono sf k2
        | 1, ⟨q, us, ys, f1, f2, f3, f4, f5⟩ =>
          refine ⟨q, us, ys, f1, f2, f3, notp f4 fun z => ?_, f5.mono sf⟩
          subst z
          exact r.ap i j x y v (Ne.symm hj) (by omega) (by omega) he e q1 (by rw [k1, f2, e2])
        | 2, ⟨q, us, ys, f1, f2, f3, f4, f5, f6⟩ =>
          refine ⟨q, us, ys, f1, f2, f3, notp f4 fun z => ?_, f5, fun k y' u' a b => ?_⟩
          · subst z
            exact r.ap i j x y v (Ne.symm hj) (by omega) (by omega) he e q1 (by rw [k1, f2, e2])
          · obtain ⟨q', ws, zs, g1, g2, g3, g4, g5⟩ := f6 k y' u' a b
            exact ⟨q', ws, zs, g1, g2, g3, notp g4 (fun z => by subst z; rw [e4] at g4; cases g4), g5.mono sf⟩
        | 3, .inl k2 => exact .inl (Rep.mono sf k2)
        | 3, .inr ⟨a, us, ys, f1, f2, f3, f5⟩ => exact .inr ⟨a, us, ys, f1, f2, f3, f5.mono sf⟩
        | _ + 4, k2 => exact k2.elim
theorem qb_frz {f : Env → Rs Out} (i : Nat) (h : QB P (ds.set i 0) sts ds' f) (hd : ds.getD i 0 ≤ 1 := by decide) : QB P ds sts ds' f :=
  PSs.imp h fun D σ H ⟨F, ω, env, r, q⟩ => by
    obtain ⟨F', ω', sf, r'⟩ := r.freeze i hd
    exact liftS.to r' sf q

/-! ### small statements -/
theorem lift.ofS {f : Env → Rs PV} {F : Hp} {ω : Om} {env : Env} {σ : St} {H : Hp} {Q : VK} {g : PV → Rs Out} {R : Out → Prop} (r : Rel P.X.K P.G ds F ω env σ H) (h : ((f env).bind g).wp (ExcS P) R) (k : ∀ x, (g x).wp (ExcS P) R → Val P d F ω H x Q) : lift P ds d f σ H Q :=
  lift.to r (Rs.wp_bind.mp h) (fun c z => z.w r.wd.h0) k
@[simp] def sSet (i : Nat) (f : Env → Rs PV) (env : Env) : Rs Out := (f env).bind fun x => .ok (.nx (env.set i (some x)))
theorem qs_set (i : Nat) {x : Str} {pos' : Pos} {f : Env → Rs PV} (he : QE P ds d e f) (hN : P.X.N.Nodup) (hl : i < ds.length := by decide) (hi : P.X.N[i]? = some x := by rfl) (hx : Loc P.X.env.scope x := by first | exact Or.inl rfl | exact Or.inr rfl)
    (hs : swapsWith e (some (.Name x pos')) pos.line P.X.env = pure false := by rfl) (hf : P.X.fn x = true ∨ P.X.env.scope.names.lookup x = some .local := by first | exact .inl rfl | exact .inr rfl) : QS P ds (.Assign [.Name x pos'] e pos) (ds.set i d) (sSet i f) :=
  PS.imp (ps_set hN hi hx he hs hf) fun D σ H ⟨F, ω, env, r, q⟩ => lift.ofS r q fun x hx F' ω' H' v l w s fr => by
    rcases r.set (i := i) l w s fr with r2 | n
    · exact hx F' ω' _ H' l.f r2
    · exact absurd hl n
theorem qs_setLc (i : Nat) {y : Str} {py : Pos} (hd : d ≤ 1) {tg iter elt : Expr} {ifs : List Expr} {scope : Scope} {own : List (Str × Nat)} {bb : Bool} {fi : Env → Rs (List PV)} {tgt : Tg} {tt : Env → Rs Bool} {fe : Env → Rs PV} {p2 : Pos} (hc : P.X.calm = true) (hN : P.X.N.Nodup) (hi : QI P ds bb tg iter fi)
    (ok : BlkOk P.X.N P.X.env.scope scope own) (hsub : ∀ j ∈ tgI tgt, j ∈ own.map (·.2)) (hg : ∀ (s : Shared) (H : Hp) (C : Addr) (cl : List (Str × Addr)) (fp : List Addr), QG (P.blk s H scope C cl fp) ds tg tgt) (ht : ∀ (s : Shared) (H : Hp) (C : Addr) (cl : List (Str × Addr)) (fp : List Addr), QTs (P.blk s H scope C cl fp) ds ifs tt)
    (he : ∀ (s : Shared) (H : Hp) (C : Addr) (cl : List (Str × Addr)) (fp : List Addr), QE (P.blk s H scope C cl fp) ds 0 elt fe)
    (hsw : swapsWith (.ListComp elt [⟨tg, iter, ifs, 0⟩] scope p2) (some (.Name y py)) pos.line P.X.env = pure true) (hl : i < ds.length := by decide) (hy : P.X.N[i]? = some y := by rfl) (hyl : P.X.env.scope.names.lookup y = some .local := by rfl) (hs : ∀ x, foldedSetIterable iter P.X.env x = pure x := by intro _; rfl) :
    QS P ds (.Assign [.Name y py] (.ListComp elt [⟨tg, iter, ifs, 0⟩] scope p2) pos) (ds.set i d) (sSet i (eLc (own.map (·.2)) fi tgt tt fe)) :=
  PS.imp (ps_setLc (g := liftG P ds (tgS tgt) (tgI tgt)) (tt := liftT { P with W := fun _ _ _ _ => False } ds tt) (te := lift { P with W := fun _ _ _ _ => False } ds 0 fe) hc hN hy hyl hsw hi ok hg ht he hs) fun D σ H ⟨F, ω, env, r, q⟩ =>
    lc_to hd hsub (lift.ofS r q fun x hx F' ω' H' v l w s fr => by
      rcases r.set (i := i) l w s fr with r2 | n
      · exact hx F' ω' _ H' l.f r2
      · exact absurd hl n)
@[simp] def sRet (f : Env → Rs PV) (env : Env) : Rs Out := (f env).bind fun x => .ok (.rt x)
theorem qs_ret {f : Env → Rs PV} (hd : P.dr = d) (he : QE P ds d e f) : QS P ds (.Return (some e) pos) ds' (sRet f) :=
  PS.imp (ps_ret he) fun D σ H ⟨F, ω, env, r, q⟩ => lift.ofS r q fun x hx F' ω' H' v l w s fr => by
    subst hd
    exact hx F' ω' H' v w s fun n p e => r.wd.h0.free (fr n p e)
/-- an owned list is handed back -/
theorem qe_mv (i : Nat) {x : Str} (hd : ds.getD i 0 = 1 := by rfl) (hN : P.X.N[i]? = some x := by rfl) (hv : Vis P.X.env.scope x := by first | exact Or.inl rfl | exact Or.inr (Or.inl rfl) | exact Or.inr (Or.inr rfl))
    (hdb : (x == ("__debug__" : Str)) = false := by decide) (hcd : (x == ("__classdict__" : Str)) = false := by decide) (hr : P.dr = 1) : QS P ds (.Return (some (.Name x pos)) pos) ds' (sRet (eV i)) :=
  PS.imp (ps_ret (pe_var hN hv hdb hcd)) fun D σ H ⟨F, ω, env, r, q⟩ => by
    unfold sRet eV at q
    split at q
    · rename_i x e
      obtain ⟨v, e1, s⟩ := r.sl i x e
      rw [hd] at s
      refine ⟨v, e1, q F ω H v r.wd (by rw [hr]; exact s) fun _ p e2 => ?_⟩
      obtain ⟨p', vs, xs, k1, k2, k3, k4, k5⟩ := s
      rw [k2] at e2; cases e2
      exact (r.wd.om _ _ k4).2.1
    · exact q.elim
@[simp] def sRetN (_ : Env) : Rs Out := .ok (.rt .non)
theorem qs_retN (hd : P.dr = 0) : QS P ds (.Return none pos) ds' sRetN :=
  PS.imp ps_retN fun D σ H ⟨F, ω, env, r, q⟩ => q F ω H .non r.wd (by rw [hd]; exact rfl) (by omega)
@[simp] def sExp (f : Env → Rs PV) (env : Env) : Rs Out := (f env).bind fun _ => .ok (.nx env)
theorem qs_exp {f : Env → Rs PV} (he : QE P ds d e f) (hs : swapsWith e none pos.line P.X.env = pure false := by rfl) : QS P ds (.Expr e pos) ds (sExp f) :=
  PS.imp (ps_expr he hs) fun D σ H ⟨F, ω, env, r, q⟩ => lift.ofS r q fun x hx F' ω' H' v l w s fr => hx F' ω' σ H' l.f (r.mono l w)
theorem qs_pass : QS P ds (.Pass pos) ds sNil := PS.imp ps_pass fun D σ H ⟨F, ω, env, r, q⟩ => q F ω σ H (.refl F) r
theorem liftT.ofS {f : Env → Rs Bool} {F : Hp} {ω : Om} {env : Env} {σ : St} {H : Hp} {Q : Bool → Hp → Prop} {g : Bool → Rs Out} {R : Out → Prop} (r : Rel P.X.K P.G ds F ω env σ H) (h : ((f env).bind g).wp (ExcS P) R) (k : ∀ x, (g x).wp (ExcS P) R → ∀ F' ω' H', Le F ω H F' ω' H' → Wd P.G F' ω' H' → Q x H') : liftT P ds f σ H Q :=
  liftT.to r (Rs.wp_bind.mp h) (fun c z => z.w r.wd.h0) k
@[simp] def sIf (t : Env → Rs Bool) (f g : Env → Rs Out) (env : Env) : Rs Out := (t env).bind fun k => if k = true then f env else g env
theorem qs_if {c : Expr} {a b : List Stmt} {t : Env → Rs Bool} {f g : Env → Rs Out} (hc : QT P ds c t) (ha : QB P ds a ds' f) (hb : QB P ds b ds' g) : QS P ds (.If c a b pos) ds' (sIf t f g) :=
  PS.imp (ps_if hc ha hb) fun D σ H ⟨F, ω, env, r, q⟩ => liftT.ofS r q fun k hk F' ω' H' l w => by
    cases k with
    | true => rw [if_pos rfl] at hk ⊢; exact liftS.to (r.mono l w) l.f hk
    | false => rw [if_neg Bool.false_ne_true] at hk ⊢; exact liftS.to (r.mono l w) l.f hk
/-- a, b = e -/
@[simp] def sTgt (tg : Tg) (f : Env → Rs PV) (env : Env) : Rs Out := (f env).bind fun x => (tgS tg x env).noexc.bind fun e => .ok (.nx e)
theorem qs_tgt {tg : Expr} {tgt : Tg} {f : Env → Rs PV} (he : QE P ds 0 e f) (hg : QG P ds tg tgt) (hs : swapsWithSole [tg] e pos.line P.X.env = pure false := by rfl) (hw : swappedStores [tg] e P.X.env = pure none := by rfl)
    (h1 : (assignEach [tg] P.X.env).map (·.2) = [assign tg P.X.env] := by rfl) : QS P ds (.Assign [tg] e pos) ds (sTgt tgt f) :=
  PS.imp (ps_asg he hg hs hw h1) fun D σ H ⟨F, ω, env, r, q⟩ => lift.ofS r q fun x hx F' ω' H' v l w s fr =>
    ⟨F', ω', env, x, r.mono l w, s, Rs.wp_mono (noexc_wp (Rs.wp_bind.mp hx)) (fun _ z => z) fun env' h σ' r' _ _ => h F' ω' σ' H' l.f r'⟩
/-- a, b = x, y -/
@[simp] def sPar (i j : Nat) (f g : Env → Rs PV) (env : Env) : Rs Out := (f env).bind fun x => (g env).bind fun y => .ok (.nx ((env.set i (some x)).set j (some y)))
theorem qs_par (i j : Nat) {x y : Str} {a b : Expr} {f g : Env → Rs PV} {px py pt : Pos} {kt k2 pt2} (hc : P.X.calm = true) (hN : P.X.N.Nodup) (ha : QE P ds 0 a f) (hb : QE P ds 0 b g) (hdi : ds.getD i 0 = 0 := by rfl) (hdj : ds.getD j 0 = 0 := by rfl) (hi : P.X.N[i]? = some x := by rfl) (hj : P.X.N[j]? = some y := by rfl) (hij : i ≠ j := by decide)
    (hx : P.X.env.scope.names.lookup x = some .local := by rfl) (hy : P.X.env.scope.names.lookup y = some .local := by rfl)
    (hw : swappedStores [.Tuple [.Name x px, .Name y py] kt pt] (.Tuple [a, b] k2 pt2) P.X.env = pure (some [x, y]) := by rfl)
    (hs : swapsWithSole [.Tuple [.Name x px, .Name y py] kt pt] (.Tuple [a, b] k2 pt2) pos.line P.X.env = pure false := by rfl)
    (s1 : starEach [a, b] P.X.env = (false, eval a P.X.env) :: starEach [b] P.X.env := by rfl) (s2 : starEach [b] P.X.env = (false, eval b P.X.env) :: starEach [] P.X.env := by rfl) :
    QS P ds (.Assign [.Tuple [.Name x px, .Name y py] kt pt] (.Tuple [a, b] k2 pt2) pos) ds (sPar i j f g) :=
  PS.imp (ps_par hc hN hi hj hij hx hy (pa_cons ha (pa_cons hb pa_nil s2) s1) hw hs) fun D σ H ⟨F, ω, env, r, q⟩ => lift.ofS r q fun u hu F1 ω1 H1 v1 l1 w1 t1 _ => by
    refine lift.ofS (r.mono l1 w1) hu fun z hz F2 ω2 H2 v2 l2 w2 t2 _ => ⟨v1, v2, rfl, ?_⟩
    have r2 := (r.mono l1 w1).mono l2 w2
    have t1 : Rep P.X.K F1 u v1 := t1
    have r3 := r2.set0 hdi (t1.mono l2.f)
    exact hz F2 ω2 _ H2 (l1.f.trans l2.f) (r3.set0 hdj t2)
/-- x op= e -/
@[simp] def sAug (i : Nat) (o : PV → PV → Rs PV) (f : Env → Rs PV) (env : Env) : Rs Out := (eV i env).bind fun x => (f env).bind fun y => (o x y).noexc.bind fun z => .ok (.nx (env.set i (some z)))
theorem qs_aug (i : Nat) {x : Str} {op : Operator} {o : PV → PV → Rs PV} {pos' : Pos} {f : Env → Rs PV} (ho : Op2 P (inplaceOp op) 0 o) (he : QE P ds 3 e f) (hN : P.X.N.Nodup) (hd : ds.getD i 0 = 0 := by rfl) (hi : P.X.N[i]? = some x := by rfl) (hx : Loc P.X.env.scope x := by first | exact Or.inl rfl | exact Or.inr rfl)
    (hf : P.X.fn x = true ∨ P.X.env.scope.names.lookup x = some .local := by first | exact .inl rfl | exact .inr rfl) : QS P ds (.AugAssign (.Name x pos') op e pos) ds (sAug i o f) :=
  PS.imp (ps_aug hN hi hx he ho hf) fun D σ H ⟨F, ω, env, r, q⟩ => by
    unfold sAug eV at q
    split at q
    · rename_i x e
      obtain ⟨v, e1, s⟩ := r.sl i x e
      rw [hd] at s
      have s : Rep P.X.K F x v := s
      refine ⟨v, e1, lift.ofS r q fun y hy F1 ω1 H1 u l1 w1 s1 _ => ⟨F1, ω1, x, y, w1, .inl (s.mono l1.f), s1, Rs.wp_mono (noexc_wp (Rs.wp_bind.mp hy)) (fun _ z => z) fun z hz F2 ω2 H2 v2 l2 w2 s2 _ => ?_⟩⟩
      exact hz F2 ω2 _ H2 (l1.f.trans l2.f) (((r.mono l1 w1).mono l2 w2).set0 hd s2)
    · exact q.elim

/-! ### an owned list is changed -/
theorem getD_le : ∀ {ds : List Nat} (h : ds.all (fun d => decide (d ≤ 2)) = true) (j : Nat), ds.getD j 0 ≤ 2
  | [], _, j => by simp
  | d :: ds, h, 0 => by
    rw [List.all_cons, Bool.and_eq_true] at h
    exact of_decide_eq_true h.1
  | d :: ds, h, j + 1 => by
    rw [List.all_cons, Bool.and_eq_true] at h
    exact getD_le h.2 j
theorem Rel.mut {K : PySem.W.Frag} {G : Gh} {F : Hp} {ω : Om} {env : Env} {σ : St} {H : Hp} (r : Rel K G ds F ω env σ H) {i : Nat} {xs' : List PV} {vs' : List V} {p : Addr} {x : PV} (hd : ds.getD i 0 = 1) (he : env[i]? = some (some x)) (hs : σ[i]? = some (some (.ref p))) (ho : ω p = some (p, none)) (rr : RepL K F xs' vs') (h3 : ds.all (fun d => decide (d ≤ 2)) = true) :
    Rel K G ds F ω (env.set i (some (.lst xs'))) σ (upd H p (.lst vs')) := by
  have hl : i < env.length := (List.getElem?_eq_some_iff.mp he).1
  have inv : ∀ {j : Nat} {y : PV}, (env.set i (some (.lst xs')))[j]? = some (some y) → (j = i ∧ y = .lst xs') ∨ (j ≠ i ∧ env[j]? = some (some y)) := fun {j y} e => by
    by_cases hj : j = i
    · rw [hj, List.getElem?_set_self hl] at e; cases e; exact .inl ⟨hj, rfl⟩
    · rw [List.getElem?_set_ne (Ne.symm hj)] at e; exact .inr ⟨hj, e⟩
  refine ⟨r.wd.mut ho, fun j y e => ?_, fun j m y z u hjm hd1 hd2 e1 e2 e3 => ?_, by rw [List.length_set]; exact r.ln⟩
  · rcases inv e with ⟨hj, hy⟩ | ⟨hj, e⟩
    · rw [hj, hy]
      refine ⟨.ref p, hs, ?_⟩
      rw [hd]
      exact ⟨p, vs', xs', rfl, rfl, upd_same, ho, rr⟩
    · obtain ⟨u, k1, k2⟩ := r.sl j y e
      refine ⟨u, k1, ?_⟩
      match hd2 : ds.getD j 0, k2 with
      | 0, k2 => exact k2
      | 1, ⟨q, us, ys, f1, f2, f3, f4, f5⟩ =>
        have hq : q ≠ p := fun z => r.ap i j x y (.ref p) (Ne.symm hj) (by omega) (by omega) he e hs (by rw [k1, f2, z])
        exact ⟨q, us, ys, f1, f2, by rw [upd_ne hq]; exact f3, f4, f5⟩
      | 2, ⟨q, us, ys, f1, f2, f3, f4, f5, f6⟩ =>
        have hq : q ≠ p := fun z => r.ap i j x y (.ref p) (Ne.symm hj) (by omega) (by omega) he e hs (by rw [k1, f2, z])
        refine ⟨q, us, ys, f1, f2, by rw [upd_ne hq]; exact f3, f4, f5, fun k y' u' a b => ?_⟩
        obtain ⟨q', ws, zs, g1, g2, g3, g4, g5⟩ := f6 k y' u' a b
        exact ⟨q', ws, zs, g1, g2, by rw [upd_ne (fun z => by rw [z, ho] at g4; cases g4)]; exact g3, g4, g5⟩
      | n + 3, _ => exact absurd (getD_le h3 j) (by omega)
  · rcases inv e1 with ⟨hj, _⟩ | ⟨hj, e1'⟩
    · rcases inv e2 with ⟨hm, _⟩ | ⟨hm, e2'⟩
      · exact absurd (hj.trans hm.symm) hjm
      · rw [hj] at e3 hd1 hjm; exact r.ap i m x z u hjm hd1 hd2 he e2' e3
    · rcases inv e2 with ⟨hm, _⟩ | ⟨hm, e2'⟩
      · rw [hm] at hd2 hjm ⊢; exact r.ap j i y x u hjm hd1 hd2 e1' he e3
      · exact r.ap j m y z u hjm hd1 hd2 e1' e2' e3
/-- the list of an owned slot -/
@[simp] def ownL (i : Nat) (env : Env) : Rs (List PV) := match env[i]? with
  | some (some (.lst xs)) => .ok xs
  | _ => .stuck
theorem ownL_inv {i : Nat} {env : Env} {E : Str → Prop} {Q : List PV → Prop} (h : (ownL i env).wp E Q) : ∃ xs, env[i]? = some (some (.lst xs)) ∧ Q xs := by
  unfold ownL at h
  split at h
  · rename_i xs e; exact ⟨xs, e, h⟩
  · exact h.elim
theorem Rel.own {K : PySem.W.Frag} {G : Gh} {F : Hp} {ω : Om} {env : Env} {σ : St} {H : Hp} (r : Rel K G ds F ω env σ H) {i : Nat} {xs : List PV} (hd : ds.getD i 0 = 1) (he : env[i]? = some (some (.lst xs))) : ∃ p vs, σ[i]? = some (some (.ref p)) ∧ H p = some (.lst vs) ∧ ω p = some (p, none) ∧ RepL K F xs vs := by
  obtain ⟨v, k1, k2⟩ := r.sl i _ he
  rw [hd] at k2
  obtain ⟨p, vs, ys, f1, f2, f3, f4, f5⟩ := k2
  cases f1
  exact ⟨p, vs, by rw [k1, f2], f3, f4, f5⟩
/-- x.append(e) -/
@[simp] def sApp (i : Nat) (f : Env → Rs PV) (env : Env) : Rs Out := (ownL i env).bind fun xs => (f env).bind fun x => if xs.length < lim then .ok (.nx (env.set i (some (.lst (xs ++ [x]))))) else .stuck
theorem ownL_nexc {i : Nat} {env : Env} {c : Str} : ownL i env ≠ .exc c := fun h => by
  unfold ownL at h
  split at h <;> cases h
theorem ownL_ok {i : Nat} {env : Env} {xs : List PV} (h : ownL i env = .ok xs) : env[i]? = some (some (.lst xs)) := by
  unfold ownL at h
  split at h
  · rename_i ys e; cases h; exact e
  · cases h
theorem qs_app (i : Nat) {x : Str} {p1 ap cp : Pos} {f : Env → Rs PV} (he : QE P ds 0 e f) (hd : ds.getD i 0 = 1 := by rfl) (h3 : ds.all (fun d => decide (d ≤ 2)) = true := by rfl) (hN : P.X.N[i]? = some x := by rfl) (hv : Vis P.X.env.scope x := by first | exact Or.inl rfl | exact Or.inr (Or.inl rfl) | exact Or.inr (Or.inr rfl))
    (hdb : (x == ("__debug__" : Str)) = false := by decide) (hcd : (x == ("__classdict__" : Str)) = false := by decide)
    (hsw : swapsWith (.Call (.Attribute (.Name x p1) "append" ap) [e] [] cp) none pos.line P.X.env = pure false := by rfl)
    (hbase : attributeBase (.Name x p1) "append" P.X.env (eval (.Name x p1) P.X.env) = eval (.Name x p1) P.X.env := by rfl)
    (hfew : ((backTo cp (starEach [e] P.X.env)).all (fun x => !x.1) && (backToKw cp (keywordEach [] P.X.env)).all (fun x => x.1.isSome)
      && decide ([e].length + ([] : List Keyword).length + (if ([] : List Keyword).isEmpty then 0 else 1) < 30)) = true := by rfl)
    (hline : (ap.endLine == cp.line) = true := by rfl) (hs : starEach [e] P.X.env = (false, eval e P.X.env) :: starEach [] P.X.env := by rfl) (hplain : (backTo cp (starEach [] P.X.env)).any (·.1) = false := by rfl) :
    QS P ds (.Expr (.Call (.Attribute (.Name x p1) "append" ap) [e] [] cp) pos) ds (sApp i f) :=
  PS.imp (ps_expr (pe_bm PySem.F.plainAttrs_list PySem.F.slot_list_append PySem.F.type_list_append mt_append (pe_var hN hv hdb hcd) (pa_cons he pa_nil hs) hbase hfew hline hs hplain) hsw) fun D σ H ⟨F, ω, env, r, q⟩ => by
    obtain ⟨xs, he, q⟩ := ownL_inv (Rs.wp_bind.mp q)
    obtain ⟨p, vs, k1, k2, k3, k4⟩ := r.own hd he
    refine ⟨.ref p, k1, .inl ⟨rfl, vs, SqL.of k2⟩, lift.ofS r q fun y hy F1 ω1 H1 u l1 w1 s1 _ => ?_⟩
    obtain ⟨hz, hy⟩ := ite_ok hy
    have s1 : Rep P.X.K F1 y u := s1
    refine ⟨p, vs, u, rfl, rfl, l1.h _ _ k2, by rw [lim_eq, k4.length]; exact hz, ?_⟩
    exact hy F1 ω1 σ _ l1.f ((r.mono l1 w1).mut hd he k1 (l1.o _ _ k3) ((k4.mono l1.f).append (RepL.cons s1 rfl)) h3)
/-- x[k] = e -/
@[simp] def ixP (n : Nat) : PV → Rs Nat
  | .int k => .opt (ixN n k)
  | _ => .stuck
@[simp] def sPut (i : Nat) (fk fv : Env → Rs PV) (env : Env) : Rs Out := (fv env).bind fun v => (ownL i env).bind fun xs => (fk env).bind fun k => (ixP xs.length k).bind fun j => .ok (.nx (env.set i (some (.lst (xs.set j v)))))
theorem ixP_inv {n : Nat} {x : PV} {E : Str → Prop} {Q : Nat → Prop} (h : (ixP n x).wp E Q) : ∃ k j, x = .int k ∧ ixN n k = some j ∧ Q j := by
  cases x with
  | int k =>
    obtain ⟨j, e, h⟩ := Rs.opt_wp h
    exact ⟨k, j, rfl, e, h⟩
  | _ => exact h.elim
theorem qs_put (i : Nat) {x : Str} {p1 tp : Pos} {ek : Expr} {fk fv : Env → Rs PV} (hv : QE P ds 0 e fv) (hk : QE P ds 0 ek fk) (hd : ds.getD i 0 = 1 := by rfl) (h3 : ds.all (fun d => decide (d ≤ 2)) = true := by rfl) (hN : P.X.N[i]? = some x := by rfl) (hvs : Vis P.X.env.scope x := by first | exact Or.inl rfl | exact Or.inr (Or.inl rfl) | exact Or.inr (Or.inr rfl))
    (hdb : (x == ("__debug__" : Str)) = false := by decide) (hcd : (x == ("__classdict__" : Str)) = false := by decide)
    (ha : ∀ v, assign (.Subscript (.Name x p1) ek tp) P.X.env v = (do
      let ov ← holding [v] (eval (.Name x p1) P.X.env)
      let iv ← holding [v, ov] (eval ek P.X.env)
      standAt tp
      holding [v, ov, iv] (setItem ov iv v)
      release [v, ov, iv] []) := by intro _; rfl)
    (hs : swapsWithSole [.Subscript (.Name x p1) ek tp] e pos.line P.X.env = pure false := by rfl) (hw : swappedStores [.Subscript (.Name x p1) ek tp] e P.X.env = pure none := by rfl)
    (h1 : (assignEach [.Subscript (.Name x p1) ek tp] P.X.env).map (·.2) = [assign (.Subscript (.Name x p1) ek tp) P.X.env] := by rfl) :
    QS P ds (.Assign [.Subscript (.Name x p1) ek tp] e pos) ds (sPut i fk fv) :=
  PS.imp (ps_asg hv (pg_sub (pe_var hN hvs hdb hcd) hk set_list ha) hs hw h1) fun D σ H ⟨F, ω, env, r, q⟩ => lift.ofS r q fun y hy F1 ω1 H1 u l1 w1 s1 _ => by
    obtain ⟨xs, he, hy⟩ := ownL_inv (Rs.wp_bind.mp hy)
    have r1 := r.mono l1 w1
    obtain ⟨p, vs, k1, k2, k3, k4⟩ := r1.own hd he
    refine ⟨.ref p, k1, lift.ofS r1 hy fun z hz F2 ω2 H2 u2 l2 w2 s2 _ => ?_⟩
    obtain ⟨k, j, e1, e2, hq⟩ := ixP_inv (Rs.wp_bind.mp hz)
    subst e1
    have s1 : Rep P.X.K F1 y u := s1
    refine ⟨p, vs, k, j, rfl, s2, l2.h _ _ k2, by rw [k4.length]; exact e2, ?_⟩
    exact hq F2 ω2 σ _ (l1.f.trans l2.f) ((r1.mono l2 w2).mut hd he k1 (l2.o _ _ k3) ((k4.mono l2.f).set j (s1.mono l2.f)) h3)
/-- x[k] op= e -/
@[simp] def sPutA (i : Nat) (o : PV → PV → Rs PV) (fk fv : Env → Rs PV) (env : Env) : Rs Out := (ownL i env).bind fun xs => (fk env).bind fun k => (ixP xs.length k).bind fun j => (Rs.opt xs[j]?).bind fun old => (fv env).bind fun y => (o old y).noexc.bind fun z => .ok (.nx (env.set i (some (.lst (xs.set j z)))))
theorem get_list {X : Cx} : PGet X (rIxL X.K) := fun pins s σ H x y v u Q I rx ry h => by
  obtain ⟨p, xs, i, z, rfl, rfl, hq, he, q⟩ := h
  cases rx
  obtain ⟨t, rfl⟩ := ry
  obtain ⟨its, r, pl, hz⟩ := I.list hq
  obtain ⟨j, h1, h2, h3, h4, h5⟩ := atI_get he
  obtain ⟨w, ew, rw'⟩ := r.get h2
  have hl := r.length
  have hn := line63
  have fin : EP X pins σ Q w s := ⟨z, H, I, rw', q⟩
  by_cases h0 : 0 ≤ i
  · have hj : i.toNat = j := by
      rw [seqIndex_of h0 h5] at h1
      exact Option.some.inj h1
    exact wpAny_getItem_list pl.isList h0 (by omega) (by rw [hj]; simpa using ew) fin
  · have hj : (i + (its.toArray.size : Int)).toNat = j := by
      rw [seqIndex_neg (by omega) h4] at h1
      rw [List.size_toArray, ← hl]
      exact Option.some.inj h1
    exact wpAny_getItem_list_neg pl.isList (by omega) (by rw [List.size_toArray] <;> omega) (by omega) (by rw [hj]; simpa using ew) fin
theorem qs_putA (i : Nat) {x : Str} {p1 tp : Pos} {ek : Expr} {op : Operator} {o : PV → PV → Rs PV} {fk fv : Env → Rs PV} (ho : Op2 P (inplaceOp op) 0 o) (hk : QE P ds 0 ek fk) (hv : QE P ds 3 e fv) (hd : ds.getD i 0 = 1 := by rfl) (h3 : ds.all (fun d => decide (d ≤ 2)) = true := by rfl) (hN : P.X.N[i]? = some x := by rfl) (hvs : Vis P.X.env.scope x := by first | exact Or.inl rfl | exact Or.inr (Or.inl rfl) | exact Or.inr (Or.inr rfl))
    (hdb : (x == ("__debug__" : Str)) = false := by decide) (hcd : (x == ("__classdict__" : Str)) = false := by decide)
    (ha : ∀ ov iv new, augStore ek ov iv new = (do holding [new, ov, iv] (setItem ov iv new); release [new, ov, iv] []; pure .next) := by intros; rfl) :
    QS P ds (.AugAssign (.Subscript (.Name x p1) ek tp) op e pos) ds (sPutA i o fk fv) :=
  PS.imp (ps_augS (pe_var hN hvs hdb hcd) hk get_list hv ho set_list ha) fun D σ H ⟨F, ω, env, r, q⟩ => by
    obtain ⟨xs, he, q⟩ := ownL_inv (Rs.wp_bind.mp q)
    obtain ⟨p, vs, k1, k2, k3, k4⟩ := r.own hd he
    refine ⟨.ref p, k1, lift.ofS r q fun z hz F2 ω2 H2 u2 l2 w2 s2 _ => ?_⟩
    obtain ⟨k, j, e1, e2, hq⟩ := ixP_inv (Rs.wp_bind.mp hz)
    subst e1
    obtain ⟨old, e3, hq⟩ := Rs.opt_wp (Rs.wp_bind.mp hq)
    obtain ⟨vo, m1, m2⟩ := k4.get e3
    have e4 : ixN vs.length k = some j := by rw [k4.length]; exact e2
    refine ⟨p, vs, k, vo, rfl, s2, SqL.of (l2.h _ _ k2), by unfold atI; rw [e4]; exact m1, ?_⟩
    have r2 := r.mono l2 w2
    refine lift.ofS r2 hq fun y hy F4 ω4 H4 u4 l4 w4 s4 _ => ?_
    refine ⟨F4, ω4, old, y, w4, .inl ((m2.mono l2.f).mono l4.f), s4, Rs.wp_mono (noexc_wp (Rs.wp_bind.mp hy)) (fun _ z => z) fun z hz F5 ω5 H5 u5 l5 w5 s5 _ => ?_⟩
    have l6 := (l2.trans l4).trans l5
    have s5 : Rep P.X.K F5 z u5 := s5
    refine ⟨p, vs, k, j, rfl, s2, l6.h _ _ k2, e4, ?_⟩
    exact hz F5 ω5 σ _ l6.f (((r2.mono l4 w4).mono l5 w5).mut hd he k1 (l6.o _ _ k3) ((k4.mono l6.f).set j s5) h3)

/-! ### loops -/
def forL (tg : Tg) (fb : Env → Rs Out) : Env → List PV → Rs Out
  | env, [] => .ok (.nx env)
  | env, x :: xs => (tgS tg x env).noexc.bind fun e => (fb e).bind fun o => match o with
    | .nx e' => forL tg fb e' xs
    | .rt y => .ok (.rt y)
@[simp] def sFor (fi : Env → Rs (List PV)) (tg : Tg) (fb : Env → Rs Out) (env : Env) : Rs Out := (fi env).bind fun xs => forL tg fb env xs
theorem qs_for {tg iter : Expr} {body : List Stmt} {fi : Env → Rs (List PV)} {tgt : Tg} {fb : Env → Rs Out} (hp : PassesOwn (model P.X.prog P.X.w) P.X.A P.X.env P.X.xe) (hc : P.X.calm = true) (hi : QI P ds true tg iter fi) (hg : QG P ds tg tgt) (hb : QB P ds body ds fb)
    (hs : ∀ x, foldedSetIterable iter P.X.env x = pure x := by intro _; rfl) : QS P ds (.For tg iter body [] pos) ds (sFor fi tgt fb) :=
  PS.imp (ps_for hp hc hi hg hb hs) fun D σ H ⟨F, ω, env, r, q⟩ => by
    refine ⟨F, ω, env, r, Rs.wp_mono (Rs.wp_bind.mp q) (fun c z => z.w r.wd.h0) fun xs hx F1 ω1 H1 J l1 w1 it => ?_⟩
    obtain ⟨Gd, Y, W, hG, hY⟩ := it
    rw [if_pos rfl] at hG hY
    refine for_it W (fun i σ H => ∃ F' ω' env', Same F1 F' ∧ Rel P.X.K P.G ds F' ω' env' σ H ∧ (forL tgt fb env' (xs.drop i)).wp (ExcS P) (SOk P ds D F)) ?_ (fun i σ H _ ⟨F', ω', env', s, r', _⟩ => hG H (s.trans r'.wd.f)) ?_ ?_
    · exact ⟨F1, ω1, env, .refl _, r.mono l1 w1, by rw [List.drop_zero]; exact hx⟩
    · rintro i v σ2 H2 H3 hi' ⟨F', ω', env', s, r', hc'⟩ hy
      have ex : xs[i]? = some xs[i] := by simp [hi']
      obtain ⟨F2, w2, l2, rv⟩ := ItOk.yld r'.wd s (hY i H2 v H3 xs[i] ex (s.trans r'.wd.f) (s.trans r'.wd.f) hy)
      rw [List.drop_eq_getElem_cons hi'] at hc'
      have hc2 : ((tgS tgt xs[i] env').noexc.bind fun e => (fb e).bind fun o => match o with
        | .nx e' => forL tgt fb e' (xs.drop (i + 1))
        | .rt y => .ok (.rt y)).wp (ExcS P) (SOk P ds D F) := hc'
      refine ⟨F2, ω', env', xs[i], r'.mono l2 w2, rv, Rs.wp_mono (noexc_wp (Rs.wp_bind.mp hc2)) (fun _ z => z) fun env2 h2 σ3 r3 _ _ => ?_⟩
      refine ⟨F2, ω', env2, r3, Rs.wp_mono (Rs.wp_bind.mp h2) (fun _ z => z) fun o ho => ?_⟩
      cases o with
      | nx e => exact fun F4 ω4 σ4 H4 s4 r4 => ⟨F4, ω4, e, (s.trans l2.f).trans s4, r4, ho⟩
      | rt y => exact ho
    · rintro σ2 H2 ⟨F', ω', env', s, r', hc'⟩
      rw [List.drop_length] at hc'
      exact hc' F' ω' σ2 H2 (l1.f.trans s) r'
def whileN (c : Env → Rs Bool) (b : Env → Rs Out) : Nat → Env → Rs Out
  | 0, _ => .stuck
  | m + 1, env => (c env).bind fun k => if k = true then (b env).bind fun o => match o with
      | .nx e => whileN c b m e
      | .rt x => .ok (.rt x)
    else .ok (.nx env)
open Classical in
noncomputable def sWhile (c : Env → Rs Bool) (b : Env → Rs Out) : Env → Rs Out := fun env => if h : ∃ m, whileN c b m env ≠ .stuck then whileN c b h.choose env else .stuck
theorem whileN_succ {c : Env → Rs Bool} {b : Env → Rs Out} : ∀ {m : Nat} {env : Env}, whileN c b m env ≠ .stuck → whileN c b (m + 1) env = whileN c b m env
  | 0, env, h => absurd rfl h
  | m + 1, env, h => by
    have h : ((c env).bind fun k => if k = true then (b env).bind fun o => match o with
      | .nx e => whileN c b m e
      | .rt x => .ok (.rt x)
      else .ok (.nx env)) ≠ .stuck := h
    show ((c env).bind fun k => if k = true then (b env).bind fun o => match o with
      | .nx e => whileN c b (m + 1) e
      | .rt x => .ok (.rt x)
      else .ok (.nx env)) = ((c env).bind fun k => if k = true then (b env).bind fun o => match o with
      | .nx e => whileN c b m e
      | .rt x => .ok (.rt x)
      else .ok (.nx env))
    cases q : c env with
    | stuck => rfl
    | exc c => rfl
    | ok k =>
      rw [q] at h
      cases k with
      | false => rfl
      | true =>
        have h : ((b env).bind fun o => match o with
          | .nx e => whileN c b m e
          | .rt x => .ok (.rt x)) ≠ .stuck := h
        show ((b env).bind fun o => match o with
          | .nx e => whileN c b (m + 1) e
          | .rt x => .ok (.rt x)) = ((b env).bind fun o => match o with
          | .nx e => whileN c b m e
          | .rt x => .ok (.rt x))
        cases q2 : b env with
        | stuck => rfl
        | exc c => rfl
        | ok o =>
          rw [q2] at h
          cases o with
          | rt x => rfl
          | nx e => exact whileN_succ h
theorem whileN_le {c : Env → Rs Bool} {b : Env → Rs Out} {m : Nat} {env : Env} (h : whileN c b m env ≠ .stuck) : ∀ k, whileN c b (m + k) env = whileN c b m env
  | 0 => rfl
  | k + 1 => by
    have := whileN_le h k
    rw [← this] at h
    rw [← this]; exact whileN_succ h
theorem sWhile_eq {c : Env → Rs Bool} {b : Env → Rs Out} {m : Nat} {env : Env} (h : whileN c b m env ≠ .stuck) : sWhile c b env = whileN c b m env := by
  unfold sWhile
  have hx : ∃ m, whileN c b m env ≠ .stuck := ⟨m, h⟩
  rw [dif_pos hx]
  have h2 := hx.choose_spec
  have a := whileN_le h hx.choose
  have b' := whileN_le h2 m
  rw [Nat.add_comm] at a
  rw [← b']; exact a
theorem sWhile_run {c : Env → Rs Bool} {b : Env → Rs Out} {env : Env} {E : Str → Prop} {Q : Out → Prop} (h : (sWhile c b env).wp E Q) : ∃ m, (whileN c b m env).wp E Q := by
  unfold sWhile at h
  split at h
  · rename_i hx; exact ⟨_, h⟩
  · exact h.elim
theorem qs_while {c : Expr} {body : List Stmt} {t : Env → Rs Bool} {fb : Env → Rs Out} (hp : PassesOwn (model P.X.prog P.X.w) P.X.A P.X.env P.X.xe) (hc : QT P ds c t) (hb : QB P ds body ds fb) : QS P ds (.While c body [] pos) ds (sWhile t fb) :=
  PS.imp (ps_while hp hc hb) fun D σ H ⟨F, ω, env, r, q⟩ => by
    obtain ⟨m, q⟩ := sWhile_run q
    refine ⟨fun m σ H => ∃ F' ω' env', Same F F' ∧ Rel P.X.K P.G ds F' ω' env' σ H ∧ (whileN t fb m env').wp (ExcS P) (SOk P ds D F), ⟨m, F, ω, env, .refl _, r, q⟩, ?_⟩
    rintro m σ2 H2 ⟨F', ω', env', s, r', q'⟩
    cases m with
    | zero => exact q'.elim
    | succ m =>
      refine liftT.ofS r' q' fun k hk F1 ω1 H1 l1 w1 => ?_
      cases k with
      | true =>
        rw [if_pos rfl] at hk
        refine iteT ⟨fun σ H => ∃ F' ω' env', Same F F' ∧ Rel P.X.K P.G ds F' ω' env' σ H ∧ (whileN t fb m env').wp (ExcS P) (SOk P ds D F), fun σ' H' h => ⟨m, Nat.lt_succ_self m, h⟩, ?_⟩
        refine ⟨F1, ω1, env', r'.mono l1 w1, Rs.wp_mono (Rs.wp_bind.mp hk) (fun _ z => z) fun o ho => ?_⟩
        cases o with
        | nx e => exact fun F4 ω4 σ4 H4 s4 r4 => ⟨F4, ω4, e, (s.trans l1.f).trans s4, r4, ho⟩
        | rt x => exact ho
      | false =>
        rw [if_neg Bool.false_ne_true] at hk
        exact iteF (hk F1 ω1 σ2 H1 (s.trans l1.f) (r'.mono l1 w1))
end

/-! ### a def -/
@[simp] def startE (n : Nat) (pvs : List PV) : Env := pvs.map some ++ List.replicate (n - pvs.length) none
/-- the end of a def -/
def fin (dr : Nat) (r : Rs Out) : Rs PV := r.bind fun o => match o with
  | .rt x => .ok x
  | .nx _ => if dr = 0 then .ok .non else .stuck
@[simp] theorem fin_rt (dr : Nat) (x : PV) : fin dr (.ok (.rt x)) = .ok x := rfl
@[simp] theorem fin_nx (e : Env) : fin 0 (.ok (.nx e)) = .ok .non := rfl
@[simp] def runB (dr n : Nat) (fb : Env → Rs Out) (pvs : List PV) : Rs PV := fin dr (fb (startE n pvs))
abbrev pxOf (P : Program) (w : World) (K : PySem.W.Frag) (mg : Str → Option Value) (base : Heap) (N : List Str) (qual : Str) (scope : Scope) (f : Addr) (cd : Value) (A : Around) (outer : List PySem.Env) (s : Shared) (H F : Hp) (E : XK) (dr : Nat) : Px where
  X := cxOf (L2.CX P w) P w K mg base N qual scope f cd A outer s H E
  W := fun cls d _ H => E cls d H
  G := ⟨H, F⟩
  dr := dr
section
variable {P : Program} {w : World} {K : PySem.W.Frag} {mg : Str → Option Value} {base : Heap} {N ps : List Str} {qual x : Str} {scope : Scope} {f : Addr} {cd : Value} {A : Around} {outer : List PySem.Env} {s : Shared} {H F : Hp} {E : XK} {dr k : Nat}
theorem px_takes : Takes (pxOf P w K mg base N qual scope f cd A outer s H F E dr).X (pxOf P w K mg base N qual scope f cd A outer s H F E dr).W := takes_of rfl rfl rfl rfl
theorem px_passes : PassesOwn (model P w) (pxOf P w K mg base N qual scope f cd A outer s H F E dr).X.A (pxOf P w K mg base N qual scope f cd A outer s H F E dr).X.env (pxOf P w K mg base N qual scope f cd A outer s H F E dr).X.xe := passes_of rfl
theorem startE_get {n : Nat} {pvs : List PV} {i : Nat} {y : PV} (h : (startE n pvs)[i]? = some (some y)) : pvs[i]? = some y := by
  unfold startE at h
  by_cases hi : i < pvs.length
  · rw [List.getElem?_append_left (by simpa using hi), List.getElem?_map] at h
    cases e : pvs[i]? with
    | none => rw [e] at h; cases h
    | some a => rw [e] at h; cases h; rfl
  · rw [List.getElem?_append_right (by simpa using hi), List.getElem?_replicate] at h
    split at h <;> cases h
/-- THE RULE: a def by its body -/
theorem fnok_mk {st : Stmt} {fd : FuncData} {fb : Env → Rs Out} {ds ds' : List Nat} (Fu : L2.Fun K x qual st f fd) (S : FnScope N ps (defScope st)) (dr : Nat) (hds : ∀ j, ds.getD j 0 = 0)
    (hbody : ∀ (cd : Value) (A : Around) (outer : List PySem.Env) (s : Shared) (H F : Hp) (E : XK), Room k (A.deeper (PyProof.Rows.envOfC qual (defScope st) s.heap.objs.size f cd)) → QB (pxOf P w K mg base N qual (defScope st) f cd A outer s H F E dr) ds (defBody st) ds' fb) :
    FnOk P w K mg base (L2.CX P w) (k + 1) f fd ps (spD K mg ps.length dr (runB dr N.length fb)) := by
  refine Fun.okX Fu S (fun vs H Q E h => h.1) (fun cd A outer s H vs Q E hr h => ?_)
  obtain ⟨hl, F, pvs, sf, rp, q⟩ := h
  refine ⟨_, hbody cd A outer s H F E hr, F, fun _ => none, startE N.length pvs, ?_, ?_⟩
  · refine ⟨⟨.refl H, .refl F, sf, fun a xs o' e _ => ⟨_, e⟩, fun p l e => by cases e⟩, fun i y e => ?_, fun i j y z v _ h1 => ?_, ?_⟩
    · have e := startE_get e
      obtain ⟨v, h1, h2⟩ := rp.get e
      refine ⟨v, ?_, by rw [hds]; exact h2⟩
      unfold L2.start
      have hi := (List.getElem?_eq_some_iff.mp h1).1
      rw [List.getElem?_append_left (by simpa using hi), List.getElem?_map, h1]; rfl
    · rw [hds] at h1; omega
    · unfold startE L2.start
      rw [List.length_append, List.length_append, List.length_map, List.length_map, List.length_replicate, List.length_replicate, rp.length]
  · refine Rs.wp_mono (Rs.wp_bind.mp q) (fun c z C σ' H' m s => z C H' m s) fun o ho => ?_
    cases o with
    | nx e =>
      intro F1 ω1 σ1 H1 _ r1
      by_cases hd : dr = 0
      · subst hd
        exact ho F1 ω1 H1 .non r1.wd rfl (by omega)
      · have ho : (if dr = 0 then Rs.ok PV.non else .stuck).wp _ _ := ho
        rw [if_neg hd] at ho; exact ho.elim
    | rt x => exact fun F1 ω1 H1 v w1 s1 fr => ho F1 ω1 H1 v w1 s1 fr
theorem fn_mk {st : Stmt} {fd : FuncData} {fb : Env → Rs Out} {ds ds' : List Nat} (Fu : L2.Fun K x qual st f fd) (S : FnScope N ps (defScope st)) (b : Binds K fd ps []) (hm : mg x = some (.ref f)) (dr : Nat) (hds : ∀ j, ds.getD j 0 = 0)
    (hbody : ∀ (cd : Value) (A : Around) (outer : List PySem.Env) (s : Shared) (H F : Hp) (E : XK), Room k (A.deeper (PyProof.Rows.envOfC qual (defScope st) s.heap.objs.size f cd)) → QB (pxOf P w K mg base N qual (defScope st) f cd A outer s H F E dr) ds (defBody st) ds' fb) :
    Fn P w K mg base x (k + 1) ps dr (runB dr N.length fb) := ⟨f, fd, fnok_mk Fu S dr hds hbody, hm, Fu.kp, b⟩
/-- a constant of the module -/
structure Cn (K : PySem.W.Frag) (mg : Str → Option Value) (x : Str) (y : PV) : Prop where
  ex : ∃ v u, mg x = some u ∧ RelV v u ∧ ∀ F, Rep K F y v
theorem Cn.qe {P : Px} {x : Str} {y : PV} {ds : List Nat} {pos : Pos} (c : Cn P.X.K P.X.mg x y) (hg : Gl P.X x) (hdb : (x == ("__debug__" : Str)) = false := by decide) : QE P ds 0 (.Name x pos) (eC y) :=
  let ⟨_, _, h1, h2, h3⟩ := c.ex
  qe_glob hg h1 h2 h3 hdb
theorem Cn.int {i : Int} {t : Tok} (h : mg x = some (.int i t)) : Cn K mg x (.int i) := ⟨.int i, _, h, ⟨t, rfl⟩, fun _ => rfl⟩
theorem Cn.str {i : Str} {t : Tok} (h : mg x = some (.str i t)) : Cn K mg x (.str i) := ⟨.str i, _, h, ⟨t, rfl⟩, fun _ => rfl⟩
theorem Cn.tup {a : Addr} {xs : List PV} {vs : List V} {us : List Value} {dd : Option Addr} {n : Nat} {sl : Array (Option Value)} (h : mg x = some (.ref a)) (l : K.lookup a = some ⟨.type "tuple", dd, .seq us.toArray n, sl⟩) (hz : us.length ≤ 1000) (r : Vals vs us) (q : ∀ F, RepL K F xs vs) : Cn K mg x (.tup xs) :=
  ⟨.ref a, _, h, rfl, fun F => ⟨a, vs, rfl, .inr ⟨_, us.toArray, n, l, rfl, rfl, by rw [List.size_toArray, sizeLine_eq]; omega, r⟩, q F⟩⟩
end
/-- the end: the law's promise -/
theorem law_sp {K : PySem.W.Frag} {mg : Str → Option Value} {d : List PV → Rs PV} {n : Nat} (hd : ∀ ns : List Int, ns.length ≤ n → (∀ z ∈ ns, Builtin.Int.intBits z ≤ 1048576) → d [.ro ns] = .ok (.bl true)) {H : Hp} {a : Addr} {ns : List Int} (hl : ns.length ≤ n) (hb : ∀ z ∈ ns, Builtin.Int.intBits z ≤ 1048576) (hS : SqL K H a (ns.map V.int)) :
    spD K mg 1 0 d [.ref a] H (fun v _ => v = .bl true) fun _ _ _ => False :=
  ⟨rfl, H, [.ro ns], .refl H, RepL.cons ⟨a, rfl, hS⟩ rfl, by rw [hd ns hl hb]; exact fun F' ω' H' v _ s _ => s⟩
theorem zds (n : Nat) : ∀ j, (List.replicate n 0).getD j 0 = 0 := fun j => by
  rw [List.getD_eq_getElem?_getD, List.getElem?_replicate]
  split <;> rfl
theorem fn_stuck {P : Program} {w : World} {K : PySem.W.Frag} {mg : Str → Option Value} {base : Heap} {ps : List Str} {qual x : Str} {st : Stmt} {f : Addr} {fd : FuncData} {N : List Str} (Fu : L2.Fun K x qual st f fd) (S : FnScope N ps (defScope st)) (b : Binds K fd ps []) (hm : mg x = some (.ref f)) (k dr : Nat) : Fn P w K mg base x (k + 1) ps dr fun _ => .stuck :=
  ⟨f, fd, Fun.okX Fu S (fun vs H Q E h => h.1) (fun cd A outer s H vs Q E hr h => h.2.elim fun F h => h.elim fun pvs h => h.2.2.elim), hm, Fu.kp, b⟩
theorem walk_end {l : PySem.W.OpenLaw} {k : Nat} {q : Program} {loose : List Str} {XP : (Str → Option Value) → Heap → Prop} {YP : World → Heap → Prop} {d : DefRec} {K : Params → PySem.W.Frag} {dl : List PV → Rs PV} (hd : ∀ ns : List Int, ns.length ≤ 63 → (∀ z ∈ ns, Builtin.Int.intBits z ≤ 1048576) → dl [.ro ns] = .ok (.bl true)) (hn : l.most = some 63) (hdf : d.params.defaults = []) (hr : Room k callerA)
    (hY : ∀ (w : World) (h : Heap), YP w h → (K w.params).In h)
    (F : ∀ (w : World) (mg : Str → Option Value) (fa : Addr) (h : Heap), (K w.params).In h → h.Ns mainGlobals mg → mg d.name = some (.ref fa) →
      ∃ fd : FuncData, (∀ (s : Shared) (u : Value), BindsTo s fd ⟨[u], []⟩ [("script", u)]) ∧ ∀ base : Heap, (K w.params).In base → base.Ns mainGlobals mg → FnOk l.prog w (K w.params) mg base (L2.CX l.prog w) k fa fd ["script"] (spD (K w.params) mg 1 0 dl)) :
    PySem.W.WalkO q loose XP YP l.row.toRowW d [] (fun f vs => PySem.call f vs) := by
  refine Att.attach_callB hn hdf fun w s₀ s₁ mg mb fa o pm cd doc a vs ns G Y ho hd' hcd hmg hobj hints hlen hbits hg => ?_
  have KX := hY w _ Y
  obtain ⟨fd, hb, hF⟩ := F w mg fa _ KX G.T.g hmg
  exact law_call KX G.T.g G.T.b G.T.builtins G.T.nolimit hg hobj hints (Nat.le_trans hlen (by rw [sizeLine_eq]; omega)) hr hF hb (fun H hO hS => law_sp hd hlen hbits hS) fun H e s' h => by
    obtain ⟨_, _, _, _, _, _, _, _, _, _, _, _, z⟩ := h
    exact z
theorem b_len : bootBuiltins "len" = some (.builtin "len") := by decide +kernel
theorem b_abs : bootBuiltins "abs" = some (.builtin "abs") := by decide +kernel
theorem b_max : bootBuiltins "max" = some (.builtin "max") := by decide +kernel
theorem b_min : bootBuiltins "min" = some (.builtin "min") := by decide +kernel
theorem b_sum : bootBuiltins "sum" = some (.builtin "sum") := by decide +kernel
theorem b_any : bootBuiltins "any" = some (.builtin "any") := by decide +kernel
theorem b_all : bootBuiltins "all" = some (.builtin "all") := by decide +kernel
theorem b_sorted : bootBuiltins "sorted" = some (.builtin "sorted") := by decide +kernel
theorem b_int : bootBuiltins "int" = some (.type "int") := by decide +kernel
theorem b_bool : bootBuiltins "bool" = some (.type "bool") := by decide +kernel
theorem b_str : bootBuiltins "str" = some (.type "str") := by decide +kernel
theorem b_list : bootBuiltins "list" = some (.type "list") := by decide +kernel
theorem b_tuple : bootBuiltins "tuple" = some (.type "tuple") := by decide +kernel
end Pw

namespace Pw.Lib
open PySem L2 Pw
def c_ZERO : PV := .tup [.int 0, .int 1]
noncomputable def b_fraction : Env → Rs Out := (sSeq (sIf (eT (eOp oLt (eV 1) (eC (.int 0)))) (sSeq (sPar 0 1 (eNeg (eV 0)) (eNeg (eV 1))) sNil) sNil) (sSeq (sSet 2 (eCall oGcd (aCons (eV 0) (aCons (eV 1) aNil)))) (sSeq (sRet (eTup (aCons (eOp oDiv (eV 0) (eV 2)) (aCons (eOp oDiv (eV 1) (eV 2)) aNil)))) sNil)))
noncomputable def d_fraction : List PV → Rs PV := runB 0 3 b_fraction
noncomputable def b_whole : Env → Rs Out := (sSeq (sRet (eTup (aCons (eV 0) (aCons (eC (.int 1)) aNil)))) sNil)
noncomputable def d_whole : List PV → Rs PV := runB 0 1 b_whole
noncomputable def b_plus : Env → Rs Out := (sSeq (sRet (eFun d_fraction (aCons (eOp oAdd (eOp oMul (eOp oIx (eV 0) (eC (.int 0))) (eOp oIx (eV 1) (eC (.int 1)))) (eOp oMul (eOp oIx (eV 1) (eC (.int 0))) (eOp oIx (eV 0) (eC (.int 1))))) (aCons (eOp oMul (eOp oIx (eV 0) (eC (.int 1))) (eOp oIx (eV 1) (eC (.int 1)))) aNil)))) sNil)
noncomputable def d_plus : List PV → Rs PV := runB 0 2 b_plus
noncomputable def b_minus : Env → Rs Out := (sSeq (sRet (eFun d_fraction (aCons (eOp oSub (eOp oMul (eOp oIx (eV 0) (eC (.int 0))) (eOp oIx (eV 1) (eC (.int 1)))) (eOp oMul (eOp oIx (eV 1) (eC (.int 0))) (eOp oIx (eV 0) (eC (.int 1))))) (aCons (eOp oMul (eOp oIx (eV 0) (eC (.int 1))) (eOp oIx (eV 1) (eC (.int 1)))) aNil)))) sNil)
noncomputable def d_minus : List PV → Rs PV := runB 0 2 b_minus
noncomputable def b_times : Env → Rs Out := (sSeq (sRet (eFun d_fraction (aCons (eOp oMul (eOp oIx (eV 0) (eC (.int 0))) (eOp oIx (eV 1) (eC (.int 0)))) (aCons (eOp oMul (eOp oIx (eV 0) (eC (.int 1))) (eOp oIx (eV 1) (eC (.int 1)))) aNil)))) sNil)
noncomputable def d_times : List PV → Rs PV := runB 0 2 b_times
noncomputable def b_over : Env → Rs Out := (sSeq (sRet (eFun d_fraction (aCons (eOp oMul (eOp oIx (eV 0) (eC (.int 0))) (eOp oIx (eV 1) (eC (.int 1)))) (aCons (eOp oMul (eOp oIx (eV 0) (eC (.int 1))) (eOp oIx (eV 1) (eC (.int 0)))) aNil)))) sNil)
noncomputable def d_over : List PV → Rs PV := runB 0 2 b_over
noncomputable def b_is_less : Env → Rs Out := (sSeq (sRet (eOp oLt (eOp oMul (eOp oIx (eV 0) (eC (.int 0))) (eOp oIx (eV 1) (eC (.int 1)))) (eOp oMul (eOp oIx (eV 1) (eC (.int 0))) (eOp oIx (eV 0) (eC (.int 1)))))) sNil)
noncomputable def d_is_less : List PV → Rs PV := runB 0 2 b_is_less
noncomputable def lp1_sum_of : Env → Rs Out := (sSeq (sSet 1 (eFun d_plus (aCons (eV 1) (aCons (eV 2) aNil)))) sNil)
@[simp] noncomputable def k1_sum_of (env : Env) : Rs Out := (sSeq (sRet (eV 1)) sNil) env
noncomputable def b_sum_of : Env → Rs Out := (sSeq (sSet 1 (eC c_ZERO)) (sSeq (sFor (iE (eV 0)) (.n 2) lp1_sum_of) k1_sum_of))
noncomputable def d_sum_of : List PV → Rs PV := runB 0 3 b_sum_of
noncomputable def b_lesser : Env → Rs Out := (sSeq (sIf (eTru (eFun d_is_less (aCons (eV 1) (aCons (eV 0) aNil)))) (sSeq (sRet (eV 1)) sNil) sNil) (sSeq (sRet (eV 0)) sNil))
noncomputable def d_lesser : List PV → Rs PV := runB 0 2 b_lesser
noncomputable def b_greater : Env → Rs Out := (sSeq (sIf (eTru (eFun d_is_less (aCons (eV 0) (aCons (eV 1) aNil)))) (sSeq (sRet (eV 1)) sNil) sNil) (sSeq (sRet (eV 0)) sNil))
noncomputable def d_greater : List PV → Rs PV := runB 0 2 b_greater
noncomputable def b_is_whole : Env → Rs Out := (sSeq (sRet (eAnd (eIsi "int" (eV 0)) (eNot (eIsi "bool" (eV 0))))) sNil)
noncomputable def d_is_whole : List PV → Rs PV := runB 0 1 b_is_whole
noncomputable def b_is_fraction : Env → Rs Out := (sSeq (sIf (tOrD (tNotD (eTru (eIsi "tuple" (eV 0)))) (tOrD (eT (eOp oNe (eCall oLen (aCons (eV 0) aNil)) (eC (.int 2)))) (tOrD (tNotD (eTru (eFun d_is_whole (aCons (eOp oIx (eV 0) (eC (.int 0))) aNil)))) (tNotD (eTru (eFun d_is_whole (aCons (eOp oIx (eV 0) (eC (.int 1))) aNil))))))) (sSeq (sRet (eC (.bl false))) sNil) sNil) (sSeq (sRet (eAnd (eOp oGe (eOp oIx (eV 0) (eC (.int 1))) (eC (.int 1))) (eOp oEq (eCall oGcd (aCons (eOp oIx (eV 0) (eC (.int 0))) (aCons (eOp oIx (eV 0) (eC (.int 1))) aNil))) (eC (.int 1))))) sNil))
noncomputable def d_is_fraction : List PV → Rs PV := runB 0 1 b_is_fraction
noncomputable def b_law_cell : Env → Rs Out := (sSeq (sIf (eT (eOp oLt (eV 1) (eCall oLen (aCons (eV 0) aNil)))) (sSeq (sRet (eCall oInt (aCons (eOp oIx (eV 0) (eV 1)) aNil))) sNil) sNil) (sSeq (sRet (eC (.int 0))) sNil))
noncomputable def d_law_cell : List PV → Rs PV := runB 0 2 b_law_cell
noncomputable def lp2_law_numbers : Env → Rs Out := (sSeq (sSet 5 (eOp oMod (eCall oInt (aCons (eOp oAdd (eOp oAdd (eOp oMul (eV 0) (eC (.int 48271))) (eOp oMul (eV 4) (eC (.int 69621)))) (eC (.int 7))) aNil)) (eC (.int 2147483647)))) (sSeq (sSet 5 (eOp oMod (eCall oInt (aCons (eOp oAdd (eOp oAdd (eOp oAdd (eOp oMul (eV 5) (eV 5)) (eOp oMul (eV 5) (eC (.int 40692)))) (eOp oMul (eV 4) (eC (.int 16807)))) (eC (.int 11))) aNil)) (eC (.int 2147483399)))) (sSeq (sApp 3 (eOp oMod (eCall oInt (aCons (eOp oDiv (eV 5) (eC (.int 32))) aNil)) (eV 2))) sNil)))
@[simp] noncomputable def k2_law_numbers (env : Env) : Rs Out := (sSeq (sRet (eV 3)) sNil) env
noncomputable def lp1_law_numbers : Env → Rs Out := (sSeq (sApp 3 (eOp oMod (eCall oInt (aCons (eV 0) aNil)) (eV 2))) (sSeq (sSet 0 (eOp oDiv (eCall oInt (aCons (eV 0) aNil)) (eV 2))) sNil))
@[simp] noncomputable def k1_law_numbers (env : Env) : Rs Out := (sSeq (sRet (eV 3)) sNil) env
noncomputable def b_law_numbers : Env → Rs Out := (sSeq (sSet 3 (eLst aNil)) (sSeq (sIf (eT (eOp oGe (eV 0) (eOp oPow (eC (.int 10)) (eC (.int 18))))) (sSeq (sFor (iR (aCons (eV 1) aNil)) (.n 4) lp1_law_numbers) k1_law_numbers) sNil) (sSeq (sFor (iR (aCons (eV 1) aNil)) (.n 4) lp2_law_numbers) k2_law_numbers)))
noncomputable def d_law_numbers : List PV → Rs PV := runB 0 6 b_law_numbers
noncomputable def b_law_draws_a : Env → Rs Out := (sSeq (sRet (eFun d_law_numbers (aCons (eOp oAdd (eFun d_law_cell (aCons (eV 0) (aCons (eV 1) aNil))) (eOp oMul (eC (.int 101)) (eV 1))) (aCons (eV 2) (aCons (eC (.int 5040)) aNil))))) sNil)
noncomputable def d_law_draws_a : List PV → Rs PV := runB 0 3 b_law_draws_a
noncomputable def lp1_law_draws_b : Env → Rs Out := (sSeq (sIf (eTru (eV 4)) (sSeq (sApp 5 (eOp oMod (eCall oInt (aCons (eV 3) aNil)) (eC (.int 5040)))) (sSeq (sSet 3 (eOp oDiv (eV 3) (eC (.int 5040)))) sNil)) (sSeq (sSet 7 (eOp oMod (eCall oInt (aCons (eOp oAdd (eOp oAdd (eOp oMul (eV 3) (eC (.int 48271))) (eOp oMul (eOp oAdd (eV 6) (eOp oMul (eC (.int 71)) (eV 1))) (eC (.int 69621)))) (eC (.int 29))) aNil)) (eC (.int 2147483647)))) (sSeq (sSet 7 (eOp oMod (eCall oInt (aCons (eOp oAdd (eOp oAdd (eOp oMul (eV 7) (eV 7)) (eOp oMul (eV 7) (eC (.int 40692)))) (eOp oMul (eV 6) (eC (.int 7907)))) aNil)) (eC (.int 2147483399)))) (sSeq (sApp 5 (eOp oMod (eCall oInt (aCons (eOp oDiv (eV 7) (eC (.int 128))) aNil)) (eC (.int 5040)))) sNil)))) sNil)
@[simp] noncomputable def k1_law_draws_b (env : Env) : Rs Out := (sSeq (sRet (eV 5)) sNil) env
noncomputable def b_law_draws_b : Env → Rs Out := (sSeq (sSet 3 (eC (.int 0))) (sSeq (sIf (eT (eOp oLt (eV 1) (eCall oLen (aCons (eV 0) aNil)))) (sSeq (sSet 3 (eCall oInt (aCons (eOp oIx (eV 0) (eV 1)) aNil))) sNil) sNil) (sSeq (sSet 4 (eOp oGe (eV 3) (eOp oPow (eC (.int 10)) (eC (.int 18))))) (sSeq (sSet 5 (eLst aNil)) (sSeq (sFor (iR (aCons (eV 2) aNil)) (.n 6) lp1_law_draws_b) k1_law_draws_b)))))
noncomputable def d_law_draws_b : List PV → Rs PV := runB 0 8 b_law_draws_b
noncomputable def lp1_law_same (dself : List PV → Rs PV) : Env → Rs Out := (sSeq (sIf (tNotD (eTru (eFun dself (aCons (eOp oIx (eV 0) (eV 2)) (aCons (eOp oIx (eV 1) (eV 2)) aNil))))) (sSeq (sRet (eC (.bl false))) sNil) sNil) sNil)
@[simp] noncomputable def k1_law_same (dself : List PV → Rs PV) (env : Env) : Rs Out := (sSeq (sRet (eC (.bl true))) sNil) env
noncomputable def b_law_same (dself : List PV → Rs PV) : Env → Rs Out := (sSeq (sIf (eTru (eIsi "list" (eV 1))) (sSeq (sIf (tOrD (tNotD (eTru (eIsi "list" (eV 0)))) (eT (eOp oNe (eCall oLen (aCons (eV 0) aNil)) (eCall oLen (aCons (eV 1) aNil))))) (sSeq (sRet (eC (.bl false))) sNil) sNil) sNil) (sSeq (sIf (eTru (eIsi "tuple" (eV 1))) (sSeq (sIf (tOrD (tNotD (eTru (eIsi "tuple" (eV 0)))) (eT (eOp oNe (eCall oLen (aCons (eV 0) aNil)) (eCall oLen (aCons (eV 1) aNil))))) (sSeq (sRet (eC (.bl false))) sNil) sNil) sNil) (sSeq (sIf (eT (eOp oIs (eV 1) (eC .non))) (sSeq (sRet (eOp oIs (eV 0) (eC .non))) sNil) (sSeq (sIf (eTru (eIsi "bool" (eV 1))) (sSeq (sRet (eAnd (eIsi "bool" (eV 0)) (eOp oEq (eV 0) (eV 1)))) sNil) (sSeq (sIf (eTru (eIsi "int" (eV 1))) (sSeq (sRet (eAnd (eIsi "int" (eV 0)) (eAnd (eNot (eIsi "bool" (eV 0))) (eOp oEq (eV 0) (eV 1))))) sNil) (sSeq (sRet (eAnd (eIsi "str" (eV 0)) (eOp oEq (eV 0) (eV 1)))) sNil)) sNil)) sNil)) sNil)) sNil)) (sSeq (sFor (iR (aCons (eCall oLen (aCons (eV 1) aNil)) aNil)) (.n 2) (lp1_law_same dself)) (k1_law_same dself)))
noncomputable def d_law_sameN : Nat → List PV → Rs PV
  | 0 => fun _ => .stuck
  | n + 1 => runB 0 3 (b_law_same (d_law_sameN n))
noncomputable def d_law_same : List PV → Rs PV := d_law_sameN 14
noncomputable def lp1_law_like (dself : List PV → Rs PV) : Env → Rs Out := (sSeq (sIf (tNotD (eTru (eFun dself (aCons (eOp oIx (eV 0) (eV 2)) (aCons (eOp oIx (eV 1) (eV 2)) aNil))))) (sSeq (sRet (eC (.bl false))) sNil) sNil) sNil)
@[simp] noncomputable def k1_law_like (dself : List PV → Rs PV) (env : Env) : Rs Out := (sSeq (sRet (eC (.bl true))) sNil) env
noncomputable def b_law_like (dself : List PV → Rs PV) : Env → Rs Out := (sSeq (sIf (eTru (eIsi2 "list" "tuple" (eV 1))) (sSeq (sIf (tOrD (eT (eOp oNe (eIsi "list" (eV 0)) (eIsi "list" (eV 1)))) (eT (eOp oNe (eIsi "tuple" (eV 0)) (eIsi "tuple" (eV 1))))) (sSeq (sRet (eC (.bl false))) sNil) sNil) (sSeq (sIf (eT (eOp oNe (eCall oLen (aCons (eV 0) aNil)) (eCall oLen (aCons (eV 1) aNil)))) (sSeq (sRet (eC (.bl false))) sNil) sNil) (sSeq (sFor (iR (aCons (eCall oLen (aCons (eV 1) aNil)) aNil)) (.n 2) (lp1_law_like dself)) (k1_law_like dself)))) sNil) (sSeq (sIf (eT (eOp oIs (eV 1) (eC .non))) (sSeq (sRet (eOp oIs (eV 0) (eC .non))) sNil) sNil) (sSeq (sIf (eTru (eIsi "bool" (eV 1))) (sSeq (sRet (eAnd (eIsi "bool" (eV 0)) (eOp oEq (eV 0) (eV 1)))) sNil) sNil) (sSeq (sIf (eTru (eIsi "int" (eV 1))) (sSeq (sRet (eAnd (eIsi "int" (eV 0)) (eAnd (eNot (eIsi "bool" (eV 0))) (eOp oEq (eV 0) (eV 1))))) sNil) sNil) (sSeq (sRet (eAnd (eIsi "str" (eV 0)) (eOp oEq (eV 0) (eV 1)))) sNil)))))
noncomputable def d_law_likeN : Nat → List PV → Rs PV
  | 0 => fun _ => .stuck
  | n + 1 => runB 0 3 (b_law_like (d_law_likeN n))
noncomputable def d_law_like : List PV → Rs PV := d_law_likeN 14
noncomputable def b_law_copy (dself : List PV → Rs PV) : Env → Rs Out := (sSeq (sIf (eTru (eIsi "list" (eV 0))) (sSeq (sRet (eLc [1] (iE (eV 0)) (.n 1) tYesD (eFun dself (aCons (eV 1) aNil)))) sNil) sNil) (sSeq (sIf (eTru (eIsi "tuple" (eV 0))) (sSeq (sRet (eCall oTuple (aCons (eLc [1] (iE (eV 0)) (.n 1) tYesD (eFun dself (aCons (eV 1) aNil))) aNil))) sNil) sNil) (sSeq (sRet (eV 0)) sNil)))
noncomputable def d_law_copyN : Nat → List PV → Rs PV
  | 0 => fun _ => .stuck
  | n + 1 => runB 0 2 (b_law_copy (d_law_copyN n))
noncomputable def d_law_copy : List PV → Rs PV := d_law_copyN 14
noncomputable def b_law_copy_a (dself : List PV → Rs PV) : Env → Rs Out := (sSeq (sIf (eTru (eIsi "list" (eV 0))) (sSeq (sRet (eLc [1] (iE (eV 0)) (.n 1) tYesD (eFun dself (aCons (eV 1) aNil)))) sNil) sNil) (sSeq (sRet (eV 0)) sNil))
noncomputable def d_law_copy_aN : Nat → List PV → Rs PV
  | 0 => fun _ => .stuck
  | n + 1 => runB 0 2 (b_law_copy_a (d_law_copy_aN n))
noncomputable def d_law_copy_a : List PV → Rs PV := d_law_copy_aN 14
noncomputable def lp1_law_common : Env → Rs Out := (sSeq (sIf (eT (eOp oEq (eV 1) (eC (.int 0)))) (sSeq (sRet (eV 0)) sNil) sNil) (sSeq (sPar 0 1 (eV 1) (eOp oMod (eCall oInt (aCons (eV 0) aNil)) (eV 1))) sNil))
@[simp] noncomputable def k1_law_common (env : Env) : Rs Out := (sSeq (sRet (eV 0)) sNil) env
noncomputable def b_law_common : Env → Rs Out := (sSeq (sSet 0 (eCall oAbs (aCons (eV 0) aNil))) (sSeq (sSet 1 (eCall oAbs (aCons (eV 1) aNil))) (sSeq (sFor (iR (aCons (eC (.int 900)) aNil)) (.n 2) lp1_law_common) k1_law_common)))
noncomputable def d_law_common : List PV → Rs PV := runB 0 3 b_law_common
noncomputable def b_law_frac : Env → Rs Out := (sSeq (sIf (eT (eOp oLt (eV 1) (eC (.int 0)))) (sSeq (sSet 0 (eOp oSub (eC (.int 0)) (eV 0))) (sSeq (sSet 1 (eOp oSub (eC (.int 0)) (eV 1))) sNil)) sNil) (sSeq (sSet 2 (eFun d_law_common (aCons (eV 0) (aCons (eV 1) aNil)))) (sSeq (sRet (eTup (aCons (eOp oDiv (eV 0) (eV 2)) (aCons (eOp oDiv (eV 1) (eV 2)) aNil)))) sNil)))
noncomputable def d_law_frac : List PV → Rs PV := runB 0 3 b_law_frac
noncomputable def lp1_law_frac_b : Env → Rs Out := (sSeq (sPar 2 3 (eV 3) (eOp oMod (eCall oInt (aCons (eV 2) aNil)) (eV 3))) sNil)
@[simp] noncomputable def k1_law_frac_b (env : Env) : Rs Out := (sSeq (sRet (eTup (aCons (eOp oDiv (eV 0) (eV 2)) (aCons (eOp oDiv (eV 1) (eV 2)) aNil)))) sNil) env
noncomputable def b_law_frac_b : Env → Rs Out := (sSeq (sSet 2 (eCall oAbs (aCons (eV 0) aNil))) (sSeq (sSet 3 (eV 1)) (sSeq (sWhile (eT (eOp oGt (eV 3) (eC (.int 0)))) lp1_law_frac_b) k1_law_frac_b)))
noncomputable def d_law_frac_b : List PV → Rs PV := runB 0 4 b_law_frac_b
noncomputable def b_law_plus : Env → Rs Out := (sSeq (sRet (eFun d_law_frac (aCons (eOp oAdd (eOp oMul (eOp oIx (eV 0) (eC (.int 0))) (eOp oIx (eV 1) (eC (.int 1)))) (eOp oMul (eOp oIx (eV 1) (eC (.int 0))) (eOp oIx (eV 0) (eC (.int 1))))) (aCons (eOp oMul (eOp oIx (eV 0) (eC (.int 1))) (eOp oIx (eV 1) (eC (.int 1)))) aNil)))) sNil)
noncomputable def d_law_plus : List PV → Rs PV := runB 0 2 b_law_plus
noncomputable def b_law_minus : Env → Rs Out := (sSeq (sRet (eFun d_law_frac (aCons (eOp oSub (eOp oMul (eOp oIx (eV 0) (eC (.int 0))) (eOp oIx (eV 1) (eC (.int 1)))) (eOp oMul (eOp oIx (eV 1) (eC (.int 0))) (eOp oIx (eV 0) (eC (.int 1))))) (aCons (eOp oMul (eOp oIx (eV 0) (eC (.int 1))) (eOp oIx (eV 1) (eC (.int 1)))) aNil)))) sNil)
noncomputable def d_law_minus : List PV → Rs PV := runB 0 2 b_law_minus
noncomputable def b_law_times : Env → Rs Out := (sSeq (sRet (eFun d_law_frac (aCons (eOp oMul (eOp oIx (eV 0) (eC (.int 0))) (eOp oIx (eV 1) (eC (.int 0)))) (aCons (eOp oMul (eOp oIx (eV 0) (eC (.int 1))) (eOp oIx (eV 1) (eC (.int 1)))) aNil)))) sNil)
noncomputable def d_law_times : List PV → Rs PV := runB 0 2 b_law_times
noncomputable def b_law_less : Env → Rs Out := (sSeq (sRet (eOp oLt (eOp oMul (eOp oIx (eV 0) (eC (.int 0))) (eOp oIx (eV 1) (eC (.int 1)))) (eOp oMul (eOp oIx (eV 1) (eC (.int 0))) (eOp oIx (eV 0) (eC (.int 1)))))) sNil)
noncomputable def d_law_less : List PV → Rs PV := runB 0 2 b_law_less
noncomputable def b_law_plus_b : Env → Rs Out := (sSeq (sRet (eFun d_law_frac_b (aCons (eOp oAdd (eOp oMul (eOp oIx (eV 0) (eC (.int 0))) (eOp oIx (eV 1) (eC (.int 1)))) (eOp oMul (eOp oIx (eV 1) (eC (.int 0))) (eOp oIx (eV 0) (eC (.int 1))))) (aCons (eOp oMul (eOp oIx (eV 0) (eC (.int 1))) (eOp oIx (eV 1) (eC (.int 1)))) aNil)))) sNil)
noncomputable def d_law_plus_b : List PV → Rs PV := runB 0 2 b_law_plus_b
noncomputable def b_law_minus_b : Env → Rs Out := (sSeq (sRet (eFun d_law_frac_b (aCons (eOp oSub (eOp oMul (eOp oIx (eV 0) (eC (.int 0))) (eOp oIx (eV 1) (eC (.int 1)))) (eOp oMul (eOp oIx (eV 1) (eC (.int 0))) (eOp oIx (eV 0) (eC (.int 1))))) (aCons (eOp oMul (eOp oIx (eV 0) (eC (.int 1))) (eOp oIx (eV 1) (eC (.int 1)))) aNil)))) sNil)
noncomputable def d_law_minus_b : List PV → Rs PV := runB 0 2 b_law_minus_b
noncomputable def lp1_riders_in : Env → Rs Out := (sSeq (sIf (eT (eOp oEq (eOp oMod (eV 0) (eC (.int 2))) (eC (.int 1)))) (sSeq (sApp 1 (eV 2)) sNil) sNil) (sSeq (sSet 0 (eOp oDiv (eV 0) (eC (.int 2)))) (sSeq (sAug 2 ioAdd (eC (.int 1))) sNil)))
@[simp] noncomputable def k1_riders_in (env : Env) : Rs Out := (sSeq (sRet (eV 1)) sNil) env
noncomputable def b_riders_in : Env → Rs Out := (sSeq (sSet 1 (eLst aNil)) (sSeq (sSet 2 (eC (.int 0))) (sSeq (sWhile (eT (eOp oGt (eV 0) (eC (.int 0)))) lp1_riders_in) k1_riders_in)))
noncomputable def d_riders_in : List PV → Rs PV := runB 0 3 b_riders_in
noncomputable def b_rider_count : Env → Rs Out := (sSeq (sRet (eCall oLen (aCons (eFun d_riders_in (aCons (eOp oSub (eCall oLen (aCons (eV 0) aNil)) (eC (.int 1))) aNil)) aNil))) sNil)
noncomputable def d_rider_count : List PV → Rs PV := runB 0 1 b_rider_count
noncomputable def b_law_has : Env → Rs Out := (sSeq (sRet (eOp oEq (eOp oMod (eOp oDiv (eV 0) (eOp oIx (eLst (aCons (eC (.int 1)) (aCons (eC (.int 2)) (aCons (eC (.int 4)) (aCons (eC (.int 8)) (aCons (eC (.int 16)) (aCons (eC (.int 32)) aNil))))))) (eV 1))) (eC (.int 2))) (eC (.int 1)))) sNil)
noncomputable def d_law_has : List PV → Rs PV := runB 0 2 b_law_has
noncomputable def b_law_size : Env → Rs Out := (sSeq (sRet (eOp oIx (eLst (aCons (eC (.int 1)) (aCons (eC (.int 2)) (aCons (eC (.int 4)) (aCons (eC (.int 8)) (aCons (eC (.int 16)) (aCons (eC (.int 32)) (aCons (eC (.int 64)) aNil)))))))) (eV 0))) sNil)
noncomputable def d_law_size : List PV → Rs PV := runB 0 1 b_law_size
noncomputable def b_law_is_whole : Env → Rs Out := (sSeq (sRet (eAnd (eIsi "int" (eV 0)) (eNot (eIsi "bool" (eV 0))))) sNil)
noncomputable def d_law_is_whole : List PV → Rs PV := runB 0 1 b_law_is_whole
noncomputable def b_law_is_fraction : Env → Rs Out := (sSeq (sIf (tOrD (tNotD (eTru (eIsi "tuple" (eV 0)))) (eT (eOp oNe (eCall oLen (aCons (eV 0) aNil)) (eC (.int 2))))) (sSeq (sRet (eC (.bl false))) sNil) sNil) (sSeq (sIf (tOrD (tNotD (eTru (eFun d_law_is_whole (aCons (eOp oIx (eV 0) (eC (.int 0))) aNil)))) (tNotD (eTru (eFun d_law_is_whole (aCons (eOp oIx (eV 0) (eC (.int 1))) aNil))))) (sSeq (sRet (eC (.bl false))) sNil) sNil) (sSeq (sRet (eAnd (eOp oGe (eOp oIx (eV 0) (eC (.int 1))) (eC (.int 1))) (eOp oEq (eFun d_law_common (aCons (eOp oIx (eV 0) (eC (.int 0))) (aCons (eOp oIx (eV 0) (eC (.int 1))) aNil))) (eC (.int 1))))) sNil)))
noncomputable def d_law_is_fraction : List PV → Rs PV := runB 0 1 b_law_is_fraction
noncomputable def lp1_law_is_fraction_b : Env → Rs Out := (sSeq (sIf (tOrD (tNotD (eTru (eIsi "int" (eV 1)))) (eTru (eIsi "bool" (eV 1)))) (sSeq (sRet (eC (.bl false))) sNil) sNil) sNil)
@[simp] noncomputable def k1_law_is_fraction_b (env : Env) : Rs Out := (sSeq (sRet (eAnd (eOp oGe (eOp oIx (eV 0) (eC (.int 1))) (eC (.int 1))) (eOp oEq (eFun d_law_common (aCons (eOp oIx (eV 0) (eC (.int 0))) (aCons (eOp oIx (eV 0) (eC (.int 1))) aNil))) (eC (.int 1))))) sNil) env
noncomputable def b_law_is_fraction_b : Env → Rs Out := (sSeq (sIf (tOrD (tNotD (eTru (eIsi "tuple" (eV 0)))) (eT (eOp oNe (eCall oLen (aCons (eV 0) aNil)) (eC (.int 2))))) (sSeq (sRet (eC (.bl false))) sNil) sNil) (sSeq (sFor (iE (eV 0)) (.n 1) lp1_law_is_fraction_b) k1_law_is_fraction_b))
noncomputable def d_law_is_fraction_b : List PV → Rs PV := runB 0 2 b_law_is_fraction_b
noncomputable def lp1_law_power : Env → Rs Out := (sSeq (sSet 1 (eOp oMul (eC (.int 2)) (eV 1))) sNil)
@[simp] noncomputable def k1_law_power (env : Env) : Rs Out := (sSeq (sRet (eV 1)) sNil) env
noncomputable def b_law_power : Env → Rs Out := (sSeq (sSet 1 (eC (.int 1))) (sSeq (sFor (iR (aCons (eV 0) aNil)) (.n 2) lp1_law_power) k1_law_power))
noncomputable def d_law_power : List PV → Rs PV := runB 0 3 b_law_power
noncomputable def lp1_law_power_b : Env → Rs Out := (sSeq (sSet 1 (eOp oMul (eC (.int 2)) (eV 1))) sNil)
@[simp] noncomputable def k1_law_power_b (env : Env) : Rs Out := (sSeq (sRet (eV 1)) sNil) env
noncomputable def b_law_power_b : Env → Rs Out := (sSeq (sSet 1 (eC (.int 1))) (sSeq (sFor (iR (aCons (eV 0) aNil)) (.n 2) lp1_law_power_b) k1_law_power_b))
noncomputable def d_law_power_b : List PV → Rs PV := runB 0 3 b_law_power_b
end Pw.Lib

namespace Pw
open PySem L2
/-! ### loops and comprehensions, plainly -/
theorem forL_inv {tg : Tg} {fb : Env → Rs Out} : ∀ {xs : List PV} {env : Env} (I : Nat → Env → Prop) (h0 : I 0 env) (hs : ∀ k x e, xs[k]? = some x → I k e → ∃ e1, tgS tg x e = .ok e1 ∧ ∃ e2, fb e1 = .ok (.nx e2) ∧ I (k + 1) e2), ∃ e, forL tg fb env xs = .ok (.nx e) ∧ I xs.length e
  | [], env, I, h0, _ => ⟨env, rfl, h0⟩
  | x :: xs, env, I, h0, hs => by
    obtain ⟨e1, h1, e2, h2, h3⟩ := hs 0 x env rfl h0
    obtain ⟨e, h4, h5⟩ := forL_inv (xs := xs) (env := e2) (fun k => I (k + 1)) h3 fun k y e' hk hI => hs (k + 1) y e' (by simpa using hk) hI
    refine ⟨e, ?_, by simpa using h5⟩
    rw [forL, h1, Rs.noexc_ok, Rs.bind_ok, h2, Rs.bind_ok]; exact h4
theorem forL_ret {tg : Tg} {fb : Env → Rs Out} : ∀ {xs : List PV} {env : Env} (I : Nat → Env → Prop) (R : PV → Prop) (h0 : I 0 env) (hs : ∀ k x e, xs[k]? = some x → I k e → ∃ e1, tgS tg x e = .ok e1 ∧ ((∃ e2, fb e1 = .ok (.nx e2) ∧ I (k + 1) e2) ∨ ∃ y, fb e1 = .ok (.rt y) ∧ R y)),
    (∃ e, forL tg fb env xs = .ok (.nx e) ∧ I xs.length e) ∨ ∃ y, forL tg fb env xs = .ok (.rt y) ∧ R y
  | [], env, I, R, h0, _ => .inl ⟨env, rfl, h0⟩
  | x :: xs, env, I, R, h0, hs => by
    obtain ⟨e1, h1, ⟨e2, h2, h3⟩ | ⟨y, h2, h3⟩⟩ := hs 0 x env rfl h0
    · rcases forL_ret (xs := xs) (env := e2) (fun k => I (k + 1)) R h3 fun k y e' hk hI => hs (k + 1) y e' (by simpa using hk) hI with ⟨e, h4, h5⟩ | ⟨y, h4, h5⟩
      · refine .inl ⟨e, ?_, by simpa using h5⟩
        rw [forL, h1, Rs.noexc_ok, Rs.bind_ok, h2, Rs.bind_ok]; exact h4
      · refine .inr ⟨y, ?_, h5⟩
        rw [forL, h1, Rs.noexc_ok, Rs.bind_ok, h2, Rs.bind_ok]; exact h4
    · refine .inr ⟨y, ?_, h3⟩
      rw [forL, h1, Rs.noexc_ok, Rs.bind_ok, h2, Rs.bind_ok]
theorem compL_map {α : Type} {g : PV → Env → Rs Env} {fe : Env → Rs PV} {env : Env} (enc : α → PV) (f : α → PV) : ∀ (l : List α), (∀ x ∈ l, ∃ e1, g (enc x) env = .ok e1 ∧ fe e1 = .ok (f x)) → compL g tYesD fe env (l.map enc) = .ok (l.map f)
  | [], _ => rfl
  | x :: l, h => by
    obtain ⟨e1, h1, h2⟩ := h x List.mem_cons_self
    rw [List.map_cons, compL, h1, Rs.bind_ok, tYesD, Rs.bind_ok, if_pos rfl, h2, Rs.bind_ok, compL_map enc f l fun y hy => h y (List.mem_cons_of_mem _ hy)]; rfl
theorem compL_filter {α : Type} {g : PV → Env → Rs Env} {tt : Env → Rs Bool} {fe : Env → Rs PV} {env : Env} (enc : α → PV) (p : α → Bool) (f : α → PV) : ∀ (l : List α), (∀ x ∈ l, ∃ e1, g (enc x) env = .ok e1 ∧ tt e1 = .ok (p x) ∧ (p x = true → fe e1 = .ok (f x))) → compL g tt fe env (l.map enc) = .ok ((l.filter p).map f)
  | [], _ => rfl
  | x :: l, h => by
    obtain ⟨e1, h1, h2, h3⟩ := h x List.mem_cons_self
    have ih := compL_filter (g := g) (tt := tt) (fe := fe) (env := env) enc p f l fun y hy => h y (List.mem_cons_of_mem _ hy)
    rw [List.map_cons, compL, h1, Rs.bind_ok, h2, Rs.bind_ok]
    cases hp : p x with
    | true => rw [if_pos rfl, h3 hp, Rs.bind_ok, ih, List.filter_cons_of_pos hp]; rfl
    | false => rw [if_neg Bool.false_ne_true, ih, List.filter_cons_of_neg (by rw [hp]; exact Bool.false_ne_true)]
theorem rng_map (n : Nat) : rng 0 (n : Int) = (List.range n).map fun k : Nat => PV.int (k : Int) := by
  unfold rng
  rw [Int.sub_zero, Int.toNat_natCast]
  simp
theorem rng_get {lo hi : Int} {k : Nat} {x : PV} (h : (rng lo hi)[k]? = some x) : x = .int (lo + k) ∧ lo + k < hi := by
  unfold rng at h
  rw [List.getElem?_map] at h
  obtain ⟨j, h1, h2⟩ := Option.map_eq_some_iff.mp h
  obtain ⟨h3, h4⟩ := List.getElem?_eq_some_iff.mp h1
  rw [List.getElem_range] at h4
  rw [List.length_range] at h3
  subst h4
  exact ⟨h2.symm, by omega⟩
/-! ### sizes -/
theorem log2_le {n s : Nat} (h : n < 2 ^ s) : n.log2 ≤ s := by
  by_cases h0 : n = 0
  · subst h0; simp
  · exact Nat.le_of_lt ((Nat.log2_lt h0).mpr h)
theorem mulOk_of {i j : Int} {s t : Nat} (hi : i.natAbs < 2 ^ s) (hj : j.natAbs < 2 ^ t) (h : s + t < 100000000) : mulOk i j = true := by
  have a := log2_le hi
  have b := log2_le hj
  unfold mulOk
  exact decide_eq_true (by omega)
theorem natAbs_mul_lt {i j : Int} {s t : Nat} (hi : i.natAbs < 2 ^ s) (hj : j.natAbs < 2 ^ t) : (i * j).natAbs < 2 ^ (s + t) := by
  rw [Int.natAbs_mul, Nat.pow_add]
  exact Nat.mul_lt_mul'' hi hj
theorem natAbs_add_lt {i j : Int} {s : Nat} (hi : i.natAbs < 2 ^ s) (hj : j.natAbs < 2 ^ s) : (i + j).natAbs < 2 ^ (s + 1) := by
  rw [Nat.pow_succ]; omega
theorem natAbs_sub_lt {i j : Int} {s : Nat} (hi : i.natAbs < 2 ^ s) (hj : j.natAbs < 2 ^ s) : (i - j).natAbs < 2 ^ (s + 1) := by
  rw [Nat.pow_succ]; omega
theorem lt_pow_le {n s t : Nat} (h : n < 2 ^ s) (l : s ≤ t) : n < 2 ^ t := Nat.lt_of_lt_of_le h (Nat.pow_le_pow_right (by omega) l)
/-! ### fractions -/
def fr (q : Rat) : PV := .tup [.int q.num, .int (q.den : Int)]
/-- top and bottom below 2 ^ s -/
def Sz (s : Nat) (q : Rat) : Prop := q.num.natAbs < 2 ^ s ∧ q.den < 2 ^ s
theorem Sz.le {s t : Nat} {q : Rat} (h : Sz s q) (l : s ≤ t) : Sz t q := ⟨lt_pow_le h.1 l, lt_pow_le h.2 l⟩
theorem fr_inj {p q : Rat} (h : fr p = fr q) : p = q := by
  unfold fr at h
  injection h with h
  injection h with h1 h2
  injection h2 with h2 _
  injection h1 with h1
  injection h2 with h2
  exact Rat.ext h1 (by omega)
theorem divInt_sz {t b : Int} {s : Nat} (ht : t.natAbs < 2 ^ s) (hb : b.natAbs < 2 ^ s) (h0 : b ≠ 0) : Sz s (Rat.divInt t b) := by
  constructor
  · rw [Rat.num_divInt]
    have h1 : (b.sign * t).natAbs = t.natAbs := by
      rw [Int.natAbs_mul]
      have : b.sign.natAbs = 1 := by rcases Int.lt_trichotomy b 0 with h | h | h <;> simp_all [Int.natAbs_sign]
      rw [this, Nat.one_mul]
    refine Nat.lt_of_le_of_lt ?_ ht
    rw [← h1]
    exact Int.natAbs_ediv_le_natAbs _ _
  · rw [Rat.den_divInt, if_neg h0]
    exact Nat.lt_of_le_of_lt (Nat.div_le_self _ _) hb
theorem e_fraction {t b : Int} {s : Nat} (ht : t.natAbs < 2 ^ s) (hb : b.natAbs < 2 ^ s) (h0 : b ≠ 0) (hs : s < 9000) : Lib.d_fraction [.int t, .int b] = .ok (fr (Rat.divInt t b)) := by
  have gpos : 0 < Nat.gcd t.natAbs b.natAbs := Nat.gcd_pos_of_pos_right _ (Int.natAbs_pos.mpr h0)
  have glt : (Nat.gcd t.natAbs b.natAbs).log2 < 9000 := by
    have : Nat.gcd t.natAbs b.natAbs < 2 ^ s := Nat.lt_of_le_of_lt (Nat.gcd_le_right _ (Int.natAbs_pos.mpr h0)) hb
    have := log2_le this
    omega
  have num : ∀ t' : Int, t' = b.sign * t → (Rat.divInt t b).num = t' / (Nat.gcd t.natAbs b.natAbs : Nat) := fun t' e => by
    rw [Rat.num_divInt, e]
    congr 1
    rw [Int.gcd, Nat.gcd_comm]
  have den : ∀ b' : Int, 0 < b' → b'.natAbs = b.natAbs → ((Rat.divInt t b).den : Int) = b' / (Nat.gcd t.natAbs b.natAbs : Nat) := fun b' hp e => by
    rw [Rat.den_divInt, if_neg h0, Int.gcd, Nat.gcd_comm]
    rw [Int.natCast_ediv, ← e, Int.natAbs_of_nonneg (by omega)]
  by_cases hneg : b < 0
  · have hbs : b.sign = -1 := Int.sign_eq_neg_one_of_neg hneg
    have e1 : (-t).natAbs = t.natAbs := Int.natAbs_neg t
    have e2 : (-b).natAbs = b.natAbs := Int.natAbs_neg b
    have c1 : (0 : Int) < ((Nat.gcd t.natAbs b.natAbs : Nat) : Int) := by omega
    simp [Lib.d_fraction, Lib.b_fraction, hneg, h0, glt, fr, e1, e2]
    exact ⟨(num (-t) (by rw [hbs]; omega)).symm, (den (-b) (by omega) e2).symm⟩
  · have hbs : b.sign = 1 := Int.sign_eq_one_of_pos (by omega)
    have c1 : (0 : Int) < ((Nat.gcd t.natAbs b.natAbs : Nat) : Int) := by omega
    simp [Lib.d_fraction, Lib.b_fraction, hneg, h0, glt, fr]
    exact ⟨(num t (by rw [hbs]; omega)).symm, (den b (by omega) rfl).symm⟩
theorem e_whole (n : Int) : Lib.d_whole [.int n] = .ok (fr (n : Rat)) := by
  simp [Lib.d_whole, Lib.b_whole, fr]
section
variable {a b : Rat} {s t u : Nat}
theorem den_pos_int (a : Rat) : (0 : Int) < (a.den : Int) := by have := a.den_pos; omega
theorem raw_add : Rat.divInt (a.num * b.den + b.num * a.den) (a.den * b.den) = a + b := by
  rw [Rat.add_def', ← Rat.divInt_ofNat]; push_cast; rfl
theorem raw_sub : Rat.divInt (a.num * b.den - b.num * a.den) (a.den * b.den) = a - b := by
  rw [Rat.sub_def', ← Rat.divInt_ofNat]; push_cast; rfl
theorem raw_mul : Rat.divInt (a.num * b.num) (a.den * b.den) = a * b := by
  rw [Rat.mul_def', ← Rat.divInt_ofNat]; push_cast; rfl
theorem Sz.parts (ha : Sz s a) (hb : Sz t b) : (a.num * (b.den : Int)).natAbs < 2 ^ (s + t) ∧ (b.num * (a.den : Int)).natAbs < 2 ^ (s + t) ∧ ((a.den : Int) * (b.den : Int)).natAbs < 2 ^ (s + t) ∧ (a.num * b.num).natAbs < 2 ^ (s + t) := by
  have da : (a.den : Int).natAbs < 2 ^ s := by rw [Int.natAbs_natCast]; exact ha.2
  have db : (b.den : Int).natAbs < 2 ^ t := by rw [Int.natAbs_natCast]; exact hb.2
  refine ⟨natAbs_mul_lt ha.1 db, ?_, natAbs_mul_lt da db, natAbs_mul_lt ha.1 hb.1⟩
  have := natAbs_mul_lt hb.1 da
  rwa [Nat.add_comm] at this
theorem den_mul_ne : (a.den : Int) * (b.den : Int) ≠ 0 := by
  have h1 := den_pos_int a
  have h2 := den_pos_int b
  have := Int.mul_pos h1 h2
  omega
theorem Sz.add (ha : Sz s a) (hb : Sz t b) : Sz (s + t + 1) (a + b) := by
  obtain ⟨h1, h2, h3, _⟩ := ha.parts hb
  rw [← raw_add]
  exact divInt_sz (natAbs_add_lt h1 h2) (lt_pow_le h3 (by omega)) den_mul_ne
theorem Sz.sub (ha : Sz s a) (hb : Sz t b) : Sz (s + t + 1) (a - b) := by
  obtain ⟨h1, h2, h3, _⟩ := ha.parts hb
  rw [← raw_sub]
  exact divInt_sz (natAbs_sub_lt h1 h2) (lt_pow_le h3 (by omega)) den_mul_ne
theorem Sz.mul (ha : Sz s a) (hb : Sz t b) : Sz (s + t) (a * b) := by
  obtain ⟨_, _, h3, h4⟩ := ha.parts hb
  rw [← raw_mul]
  exact divInt_sz h4 h3 den_mul_ne
theorem Sz.int {n : Int} (h : n.natAbs < 2 ^ s) (h1 : 1 ≤ s) : Sz s (n : Rat) := ⟨h, by rw [Rat.den_intCast]; exact Nat.one_lt_two_pow (by omega)⟩
theorem Sz.mulOk (ha : Sz s a) (hb : Sz t b) (h : s + t < 100000000) : Pw.mulOk a.num (b.den : Int) = true ∧ Pw.mulOk b.num (a.den : Int) = true ∧ Pw.mulOk (a.den : Int) (b.den : Int) = true ∧ Pw.mulOk a.num b.num = true := by
  have da : (a.den : Int).natAbs < 2 ^ s := by rw [Int.natAbs_natCast]; exact ha.2
  have db : (b.den : Int).natAbs < 2 ^ t := by rw [Int.natAbs_natCast]; exact hb.2
  exact ⟨mulOk_of ha.1 db h, mulOk_of hb.1 da (by omega), mulOk_of da db h, mulOk_of ha.1 hb.1 h⟩
@[simp] theorem atI_0 {α : Type} (x : α) (xs : List α) : atI (x :: xs) 0 = some x := by simp [atI, ixN]
@[simp] theorem atI_1 {α : Type} (x y : α) (xs : List α) : atI (x :: y :: xs) 1 = some y := by
  simp [atI, ixN, show (1 : Int) < (xs.length : Int) + 1 + 1 by omega]
theorem e_plus (ha : Sz s a) (hb : Sz t b) (h : s + t < 8000) : Lib.d_plus [fr a, fr b] = .ok (fr (a + b)) := by
  obtain ⟨m1, m2, m3, _⟩ := ha.mulOk hb (by omega)
  obtain ⟨h1, h2, h3, _⟩ := ha.parts hb
  have := e_fraction (natAbs_add_lt h1 h2) (lt_pow_le h3 (Nat.le_succ _)) den_mul_ne (by omega)
  rw [raw_add] at this
  simp [Lib.d_plus, Lib.b_plus, fr, m1, m2, m3]
  rw [this]; rfl
theorem e_minus (ha : Sz s a) (hb : Sz t b) (h : s + t < 8000) : Lib.d_minus [fr a, fr b] = .ok (fr (a - b)) := by
  obtain ⟨m1, m2, m3, _⟩ := ha.mulOk hb (by omega)
  obtain ⟨h1, h2, h3, _⟩ := ha.parts hb
  have := e_fraction (natAbs_sub_lt h1 h2) (lt_pow_le h3 (Nat.le_succ _)) den_mul_ne (by omega)
  rw [raw_sub] at this
  simp [Lib.d_minus, Lib.b_minus, fr, m1, m2, m3]
  rw [this]; rfl
theorem e_times (ha : Sz s a) (hb : Sz t b) (h : s + t < 8000) : Lib.d_times [fr a, fr b] = .ok (fr (a * b)) := by
  obtain ⟨m1, m2, m3, m4⟩ := ha.mulOk hb (by omega)
  obtain ⟨h1, h2, h3, h4⟩ := ha.parts hb
  have := e_fraction h4 h3 den_mul_ne (by omega)
  rw [raw_mul] at this
  simp [Lib.d_times, Lib.b_times, fr, m3, m4]
  rw [this]; rfl
theorem e_is_less (ha : Sz s a) (hb : Sz t b) (h : s + t < 8000) : Lib.d_is_less [fr a, fr b] = .ok (.bl (decide (a < b))) := by
  obtain ⟨m1, m2, m3, m4⟩ := ha.mulOk hb (by omega)
  simp [Lib.d_is_less, Lib.b_is_less, fr, m1, m2, Rat.lt_iff]
theorem e_greater (ha : Sz s a) (hb : Sz t b) (h : s + t < 8000) : Lib.d_greater [fr a, fr b] = .ok (fr (max a b)) := by
  have := e_is_less ha hb h
  unfold fr at this
  rw [Rat.max_def]
  simp [Lib.d_greater, Lib.b_greater, fr, this]
  by_cases hh : a < b
  · simp [hh, Rat.le_of_lt hh]
  · by_cases h2 : a ≤ b
    · have : a = b := Rat.le_antisymm h2 (Rat.not_lt.mp hh)
      subst this; simp [hh]
    · simp [hh, h2]
end
end Pw

namespace Pw
open PySem L2
theorem sum_take_succ {qs : List Rat} {k : Nat} {q : Rat} (h : qs[k]? = some q) : (qs.take (k + 1)).sum = (qs.take k).sum + q := by
  rw [List.take_add_one, h]
  simp [List.sum_append, Rat.add_zero]
theorem sz_take {s : Nat} {qs : List Rat} (h : ∀ q ∈ qs, Sz s q) : ∀ k : Nat, k ≤ qs.length → Sz (1 + k * (s + 1)) (qs.take k).sum
  | 0, _ => by simp [Sz]
  | k + 1, hk => by
    have e : qs[k]? = some qs[k] := by simp [show k < qs.length by omega]
    rw [sum_take_succ e]
    have := (sz_take h k (by omega)).add (h qs[k] (List.getElem_mem _))
    exact this.le (by rw [Nat.add_mul]; omega)
/-- summing fractions, by a module's own functions: the shape of the loop's body is given -/
theorem e_sum {fb : Env → Rs Out} {n : Nat} {v : PV} {qs : List Rat} {s : Nat} (h : ∀ q ∈ qs, Sz s q) (hz : qs.length * (s + 1) + s < 7990)
    (hp : ∀ {a b : Rat} {y : Option PV}, Sz (1 + n * (s + 1)) a → Sz s b → fb [some v, some (fr a), some (fr b)] = .ok (.nx [some v, some (fr (a + b)), some (fr b)])) (hn : qs.length ≤ n + 1) (x0 : Option PV) :
    ∃ y, forL (.n 2) fb [some v, some (fr 0), x0] (qs.map fr) = .ok (.nx [some v, some (fr qs.sum), y]) := by
  obtain ⟨e, h1, h2⟩ := forL_inv (tg := .n 2) (fb := fb) (xs := qs.map fr) (env := [some v, some (fr 0), x0])
    (fun k e => ∃ y, e = [some v, some (fr (qs.take k).sum), y]) ⟨x0, by simp⟩ fun k x e hx ⟨y, he⟩ => by
      rw [List.getElem?_map] at hx
      obtain ⟨q, hq, rfl⟩ := Option.map_eq_some_iff.mp hx
      subst he
      have hk : k < qs.length := (List.getElem?_eq_some_iff.mp hq).1
      have hb : k * (s + 1) ≤ n * (s + 1) := Nat.mul_le_mul_right _ (by omega)
      have := hp (y := none) ((sz_take h k (by omega)).le (by omega)) (h q (List.mem_of_getElem? hq))
      rw [← sum_take_succ hq] at this
      exact ⟨_, rfl, _, this, _, rfl⟩
  obtain ⟨y, rfl⟩ := h2
  rw [List.length_map, List.take_length] at h1
  exact ⟨y, h1⟩
theorem fr_zero : fr 0 = .tup [.int 0, .int 1] := rfl
theorem e_sum_of {qs : List Rat} {s : Nat} (h : ∀ q ∈ qs, Sz s q) (hz : qs.length * (s + 1) + s < 7990) : Lib.d_sum_of [.lst (qs.map fr)] = .ok (fr qs.sum) := by
  obtain ⟨y, hy⟩ := e_sum (fb := Lib.lp1_sum_of) (n := qs.length) (v := .lst (qs.map fr)) h hz (fun ha hb => by
    simp [Lib.lp1_sum_of, e_plus ha hb (by omega)]) (by omega) none
  rw [fr_zero] at hy
  simp [Lib.d_sum_of, Lib.b_sum_of, Lib.c_ZERO, hy]

/-! ### drawn numbers -/
theorem bits_of {z : Int} {B : Nat} (h : Builtin.Int.intBits z ≤ B) : z.natAbs < 2 ^ B := by
  unfold Builtin.Int.intBits at h
  split at h
  · rename_i h0
    have : z.natAbs = 0 := by simpa using h0
    rw [this]; exact Nat.two_pow_pos _
  · rename_i h0
    have h0 : z.natAbs ≠ 0 := by simpa using h0
    exact Nat.lt_of_lt_of_le Nat.lt_log2_self (Nat.pow_le_pow_right (by omega) h)
theorem small_lt {i : Int} {s : Nat} (h : i.natAbs < s) (hs : s ≤ 2 ^ 64) : i.natAbs < 2 ^ 64 := Nat.lt_of_lt_of_le h hs
theorem mulOk_small {i j : Int} (hi : i.natAbs < 2 ^ 64) (hj : j.natAbs < 2 ^ 64) : mulOk i j = true := mulOk_of hi hj (by omega)
/-- the cell at a place -/
def cellAt (ns : List Int) (at_ : Nat) : Int := if at_ < ns.length then ns.getD at_ 0 else 0
theorem atI_getD {ns : List Int} {k : Nat} (h : k < ns.length) : atI ns (k : Int) = some (ns.getD k 0) := by
  rw [List.getD_eq_getElem?_getD]
  have e : ns[k]? = some ns[k] := by simp [h]
  rw [atI_nat e, e]; rfl
theorem cell_bits {ns : List Int} {B : Nat} (hb : ∀ z ∈ ns, z.natAbs < 2 ^ B) (k : Nat) : (cellAt ns k).natAbs < 2 ^ B := by
  unfold cellAt
  split
  · rename_i h
    rw [List.getD_eq_getElem?_getD]
    have e : ns[k]? = some ns[k] := by simp [h]
    rw [e]; exact hb _ (List.getElem_mem _)
  · exact Nat.two_pow_pos _
/-- n numbers from 0 to m - 1 -/
def Drawn (n m : Nat) (l : List Int) : Prop := l.length = n ∧ ∀ x ∈ l, 0 ≤ x ∧ x < m
theorem l_draws_b {ns : List Int} {B : Nat} (hB : B ≤ 1048576) {at_ n : Nat} (ha : at_ < 2 ^ 20) (hn : n < 2 ^ 20) {c : Int} (hc : c.natAbs < 2 ^ B) (bd : Bool) :
    ∃ (l : List Int) (c' : Int) (x6 x7 : Option PV), forL (.n 6) Lib.lp1_law_draws_b [some (.ro ns), some (.int at_), some (.int n), some (.int c), some (.bl bd), some (.lst []), none, none] (rng 0 n) =
      .ok (.nx [some (.ro ns), some (.int at_), some (.int n), some (.int c'), some (.bl bd), some (.lst (l.map .int)), x6, x7]) ∧ Drawn n 5040 l := by
  obtain ⟨e, h1, c', l, x6, x7, h2, _, h3⟩ := forL_inv (tg := .n 6) (fb := Lib.lp1_law_draws_b) (xs := rng 0 n) (env := [some (.ro ns), some (.int at_), some (.int n), some (.int c), some (.bl bd), some (.lst []), none, none])
    (fun k e => ∃ (c : Int) (l : List Int) (x6 x7 : Option PV), e = [some (.ro ns), some (.int at_), some (.int n), some (.int c), some (.bl bd), some (.lst (l.map .int)), x6, x7] ∧ c.natAbs < 2 ^ B ∧ Drawn k 5040 l)
    ⟨c, [], none, none, rfl, hc, rfl, by simp⟩ fun k x e hx ⟨c, l, x6, x7, he, hc, hl, hr⟩ => by
      obtain ⟨hx, hk⟩ := rng_get hx
      subst hx he
      refine ⟨_, rfl, ?_⟩
      have hk : k < 2 ^ 20 := by omega
      have hll : l.length < 16777216 := by omega
      cases bd with
      | true =>
        refine ⟨[some (.ro ns), some (.int at_), some (.int n), some (.int (c / 5040)), some (.bl true), some (.lst ((l ++ [c % 5040]).map .int)), some (.int (0 + k)), x7], by simp [Lib.lp1_law_draws_b, hll], c / 5040, l ++ [c % 5040], _, _, rfl, Nat.lt_of_le_of_lt (Int.natAbs_ediv_le_natAbs _ _) hc, by simp [hl], fun y hy => ?_⟩
        rcases List.mem_append.mp hy with hy | hy
        · exact hr y hy
        · simp at hy; omega
      | false =>
        have m1 : mulOk c 48271 = true := mulOk_of hc (show (48271 : Int).natAbs < 2 ^ 16 by decide) (by omega)
        have m2 : mulOk 71 (at_ : Int) = true := mulOk_small (by decide) (by omega)
        have m3 : mulOk (k + 71 * (at_ : Int)) 69621 = true := mulOk_small (by omega) (by decide)
        have r1 : ∀ y : Int, 0 ≤ y % 2147483647 ∧ y % 2147483647 < 2147483647 := fun y => by omega
        generalize hy1 : (c * 48271 + (k + 71 * (at_ : Int)) * 69621 + 29) % 2147483647 = y1
        have b1 : 0 ≤ y1 ∧ y1 < 2147483647 := by rw [← hy1]; exact r1 _
        have m4 : mulOk y1 y1 = true := mulOk_small (by omega) (by omega)
        have m5 : mulOk y1 40692 = true := mulOk_small (by omega) (by decide)
        have m6 : mulOk (k : Int) 7907 = true := mulOk_small (by omega) (by decide)
        refine ⟨[some (.ro ns), some (.int at_), some (.int n), some (.int c), some (.bl false), some (.lst ((l ++ [((y1 * y1 + y1 * 40692 + k * 7907) % 2147483399 / 128) % 5040]).map .int)), some (.int (0 + k)), some (.int ((y1 * y1 + y1 * 40692 + k * 7907) % 2147483399))],
          by simp [Lib.lp1_law_draws_b, hll, m1, m2, m3, hy1, m4, m5, m6], c, _, _, _, rfl, hc, by simp [hl], fun y hy => ?_⟩
        rcases List.mem_append.mp hy with hy | hy
        · exact hr y hy
        · simp at hy; omega
  rw [rng_len, Int.sub_zero, Int.toNat_natCast] at h3
  exact ⟨l, c', x6, x7, by rw [h1, h2], h3⟩
theorem e_draws_b {ns : List Int} {B : Nat} (hb : ∀ z ∈ ns, z.natAbs < 2 ^ B) (hB : B ≤ 1048576) (at_ n : Nat) (ha : at_ < 2 ^ 20 := by decide) (hn : n < 2 ^ 20 := by decide) : ∃ l, Lib.d_law_draws_b [.ro ns, .int at_, .int n] = .ok (.lst (l.map .int)) ∧ Drawn n 5040 l := by
  have hc := cell_bits hb at_
  have rk : n < 4611686018427387904 := by omega
  unfold cellAt at hc
  by_cases h : at_ < ns.length
  · rw [if_pos h] at hc
    have ea := atI_getD h
    generalize ns.getD at_ 0 = z at hc ea
    obtain ⟨l, c', x6, x7, h1, h3⟩ := l_draws_b (ns := ns) hB ha hn hc (decide (1000000000000000000 ≤ z))
    refine ⟨l, ?_, h3⟩
    simp [Lib.d_law_draws_b, Lib.b_law_draws_b, h, ea, rk, h1]
  · rw [if_neg h] at hc
    obtain ⟨l, c', x6, x7, h1, h3⟩ := l_draws_b (ns := ns) hB ha hn hc false
    refine ⟨l, ?_, h3⟩
    simp [Lib.d_law_draws_b, Lib.b_law_draws_b, h, rk, h1]
end Pw

namespace Pw
open PySem L2
/-! ### places -/
@[simp] theorem ixN_nat (n k : Nat) : ixN n (k : Int) = if k < n then some k else none := by
  unfold ixN
  rw [if_pos (by omega)]
  by_cases h : k < n
  · rw [if_pos (by omega), if_pos h, Int.toNat_natCast]
  · rw [if_neg (by omega), if_neg h]
@[simp] theorem atI_natCast {α : Type} (xs : List α) (k : Nat) : atI xs (k : Int) = xs[k]? := by
  unfold atI
  rw [ixN_nat]
  by_cases h : k < xs.length
  · rw [if_pos h]; rfl
  · rw [if_neg h]; exact (List.getElem?_eq_none (by omega)).symm
/-- the list of a function's first values -/
def tab {α : Type} (n : Nat) (f : Nat → α) : List α := (List.range n).map f
@[simp] theorem tab_length {α : Type} (n : Nat) (f : Nat → α) : (tab n f).length = n := by simp [tab]
@[simp] theorem tab_get {α : Type} (n : Nat) (f : Nat → α) (k : Nat) : (tab n f)[k]? = if k < n then some (f k) else none := by
  unfold tab
  rw [List.getElem?_map]
  by_cases h : k < n
  · rw [if_pos h, List.getElem?_range h]; rfl
  · rw [if_neg h, List.getElem?_eq_none (by simp; omega)]; rfl
@[simp] theorem tab_getElem {α : Type} (n : Nat) (f : Nat → α) (k : Nat) (h : k < (tab n f).length) : (tab n f)[k] = f k := by
  have e := tab_get n f k
  rw [List.getElem?_eq_getElem h, if_pos (by rw [tab_length] at h; exact h)] at e
  exact Option.some.inj e
theorem tab_get' {α : Type} {n : Nat} {f : Nat → α} {k : Nat} (h : k < n) : (tab n f)[k]? = some (f k) := by rw [tab_get, if_pos h]
theorem tab_ext {α : Type} {n : Nat} {f g : Nat → α} (h : ∀ k, k < n → f k = g k) : tab n f = tab n g := by
  apply List.ext_getElem?
  intro k
  rw [tab_get, tab_get]
  by_cases hk : k < n
  · rw [if_pos hk, if_pos hk, h k hk]
  · rw [if_neg hk, if_neg hk]
theorem tab_succ {α : Type} (n : Nat) (f : Nat → α) : tab (n + 1) f = tab n f ++ [f n] := by simp [tab, List.range_succ]
theorem tab_put {α : Type} (n : Nat) (f : Nat → α) (v : α) : tab n f ++ [v] = tab (n + 1) fun j => if j = n then v else f j := by
  rw [tab_succ, if_pos rfl]
  congr 1
  exact tab_ext fun k hk => by rw [if_neg (by omega)]
theorem tab_set {α : Type} (n : Nat) (f : Nat → α) (k : Nat) (v : α) : (tab n f).set k v = tab n fun j => if j = k then v else f j := by
  apply List.ext_getElem?
  intro j
  rw [List.getElem?_set, tab_get, tab_get, tab_length]
  by_cases hj : j < n
  · by_cases e : k = j
    · subst e; simp [hj]
    · rw [if_neg e, if_pos hj, if_pos hj, if_neg (fun h => e h.symm)]
  · by_cases e : k = j
    · subst e; simp [hj]
    · rw [if_neg e, if_neg hj, if_neg hj]
theorem tab_map {α β : Type} (n : Nat) (f : Nat → α) (g : α → β) : (tab n f).map g = tab n fun k => g (f k) := by simp [tab, Function.comp_def]
theorem tab_of {α : Type} [Inhabited α] (xs : List α) : xs = tab xs.length fun k => xs.getD k default := by
  apply List.ext_getElem?
  intro k
  rw [tab_get]
  by_cases h : k < xs.length
  · rw [if_pos h, List.getD_eq_getElem?_getD, List.getElem?_eq_getElem h]; rfl
  · rw [if_neg h, List.getElem?_eq_none (by omega)]
theorem map_tab {α β : Type} [Inhabited α] (xs : List α) (g : α → β) : xs.map g = tab xs.length fun k => g (xs.getD k default) := by
  conv => lhs; rw [tab_of xs, tab_map]
theorem rng_tab (n : Nat) : rng 0 (n : Int) = tab n fun k => PV.int (k : Int) := rng_map n
/-! ### comparing -/
@[simp] theorem shp_non : shp .non = true := by simp [shp, toD, SeqAt.shaped, PyData.canLay0, PyData.depth]
@[simp] theorem shp_bl (b : Bool) : shp (.bl b) = true := by simp [shp, toD, SeqAt.shaped, PyData.canLay0, PyData.depth]
@[simp] theorem shp_int (i : Int) : shp (.int i) = true := by simp [shp, toD, SeqAt.shaped, PyData.canLay0, PyData.depth]
@[simp] theorem shp_str (s : Str) : shp (.str s) = PyData.strOk s := by simp [shp, toD, SeqAt.shaped, PyData.canLay0, PyData.depth]
@[simp] theorem peq_int (i j : Int) : peq (.int i) (.int j) = decide (i = j) := by simp [peq, toD, PyData.eqv]; by_cases h : i = j <;> simp [h]
@[simp] theorem peq_bl (i j : Bool) : peq (.bl i) (.bl j) = (i == j) := by simp [peq, toD, PyData.eqv]
@[simp] theorem peq_str (i j : Str) : peq (.str i) (.str j) = (i == j) := by simp [peq, toD, PyData.eqv]
def peqs : List PV → List PV → Bool
  | [], [] => true
  | x :: xs, y :: ys => peq x y && peqs xs ys
  | _, _ => false
theorem peqs_all : ∀ xs ys : List PV, PyData.eqvAll (toDs xs) (toDs ys) = peqs xs ys
  | [], [] => rfl
  | [], _ :: _ => by simp [toDs, PyData.eqvAll, peqs]
  | _ :: _, [] => by simp [toDs, PyData.eqvAll, peqs]
  | x :: xs, y :: ys => by simp [toDs, PyData.eqvAll, peqs, peqs_all xs ys, peq]
@[simp] theorem peqs_nil : peqs [] [] = true := rfl
@[simp] theorem peqs_cons (x y : PV) (xs ys : List PV) : peqs (x :: xs) (y :: ys) = (peq x y && peqs xs ys) := rfl
@[simp] theorem peq_lst (xs ys : List PV) : peq (.lst xs) (.lst ys) = peqs xs ys := by simp [peq, toD, PyData.eqv, peqs_all]
@[simp] theorem peq_tup (xs ys : List PV) : peq (.tup xs) (.tup ys) = peqs xs ys := by simp [peq, toD, PyData.eqv, peqs_all]
@[simp] theorem shp_pair (a b : Int) : shp (.tup [.int a, .int b]) = true := by simp [shp, toD, toDs, SeqAt.shaped, PyData.canLay0, PyData.depth, PyData.canLayAll0, PyData.depthAll]
/-! ### plain values -/
/-- lists and tuples of plain values, to a depth -/
def Dp : Nat → PV → Prop
  | 0, _ => False
  | n + 1, .lst xs => xs.length ≤ 16777216 ∧ ∀ x ∈ xs, Dp n x
  | n + 1, .tup xs => xs.length ≤ 16777216 ∧ ∀ x ∈ xs, Dp n x
  | _ + 1, .ro _ => False
  | _ + 1, .str s => PyData.strOk s = true
  | _ + 1, _ => True
mutual
theorem dp_shp : ∀ {n : Nat} {x : PV}, Dp n x → (toD x).canLay0 = true ∧ (toD x).depth ≤ n
  | 0, _, h => h.elim
  | n + 1, .non, _ => by simp [toD, PyData.canLay0, PyData.depth]
  | n + 1, .bl _, _ => by simp [toD, PyData.canLay0, PyData.depth]
  | n + 1, .int _, _ => by simp [toD, PyData.canLay0, PyData.depth]
  | n + 1, .str _, h => by simp [toD, PyData.canLay0, PyData.depth]; exact h
  | n + 1, .ro _, h => h.elim
  | n + 1, .lst xs, h => by
    have := dps_shp (xs := xs) h.2
    simp [toD, PyData.canLay0, PyData.depth, this.1]; exact this.2
  | n + 1, .tup xs, h => by
    have := dps_shp (xs := xs) h.2
    simp [toD, PyData.canLay0, PyData.depth, this.1]; exact this.2
theorem dps_shp : ∀ {n : Nat} {xs : List PV}, (∀ x ∈ xs, Dp n x) → PyData.canLayAll0 (toDs xs) = true ∧ PyData.depthAll (toDs xs) ≤ n
  | n, [], _ => by simp [toDs, PyData.canLayAll0, PyData.depthAll]
  | n, x :: xs, h => by
    have h1 := dp_shp (h x List.mem_cons_self)
    have h2 := dps_shp (xs := xs) fun y hy => h y (List.mem_cons_of_mem _ hy)
    simp [toDs, PyData.canLayAll0, PyData.depthAll, h1.1, h2.1]
    omega
end
theorem shp_of {x : PV} (h : Dp 14 x) : shp x = true := by
  have := dp_shp h
  simp [shp, SeqAt.shaped, this.1]; omega
theorem like_refl : ∀ (n : Nat) (x : PV), Dp n x → Lib.d_law_likeN n [x, x] = .ok (.bl true)
  | 0, _, h => h.elim
  | n + 1, x, h => by
    have loop : ∀ (c : List PV → PV) (hc : ∀ xs i, oIx (c xs) (.int i) = .opt (atI xs i)) (xs : List PV), (∀ x ∈ xs, Dp n x) → ∃ y, forL (.n 2) (Lib.lp1_law_like (Lib.d_law_likeN n)) [some (c xs), some (c xs), none] (rng 0 (xs.length : Int)) = .ok (.nx [some (c xs), some (c xs), y]) := fun c hc xs hx => by
      obtain ⟨e, h1, y, rfl⟩ := forL_inv (tg := .n 2) (fb := Lib.lp1_law_like (Lib.d_law_likeN n)) (xs := rng 0 (xs.length : Int)) (env := [some (c xs), some (c xs), none])
        (fun k e => ∃ y, e = [some (c xs), some (c xs), y]) ⟨none, rfl⟩ fun k x e hk ⟨y, he⟩ => by
          obtain ⟨hv, hk⟩ := rng_get hk
          subst hv he
          have hk : k < xs.length := by omega
          rw [Int.zero_add]
          have e1 : oIx (c xs) (.int k) = .ok xs[k] := by rw [hc, atI_natCast, List.getElem?_eq_getElem hk]; rfl
          have := like_refl n xs[k] (hx _ (List.getElem_mem _))
          refine ⟨_, rfl, [some (c xs), some (c xs), some (.int k)], ?_, _, rfl⟩
          simp only [Lib.lp1_law_like]
          simp [e1, this]
      exact ⟨y, h1⟩
    cases x with
    | lst xs =>
      obtain ⟨hl, hx⟩ := h
      have hl : xs.length < 4611686018427387904 := by omega
      obtain ⟨y, hy⟩ := loop .lst (fun _ _ => rfl) xs hx
      simp [Lib.d_law_likeN, Lib.b_law_like, hl, hy]
    | tup xs =>
      obtain ⟨hl, hx⟩ := h
      have hl : xs.length < 4611686018427387904 := by omega
      obtain ⟨y, hy⟩ := loop .tup (fun _ _ => rfl) xs hx
      simp [Lib.d_law_likeN, Lib.b_law_like, hl, hy]
    | ro ns => exact h.elim
    | str s => simp [Lib.d_law_likeN, Lib.b_law_like, show PyData.strOk s = true from h]
    | _ => simp [Lib.d_law_likeN, Lib.b_law_like]
theorem e_like {x : PV} (h : Dp 14 x) : Lib.d_law_like [x, x] = .ok (.bl true) := like_refl 14 x h
theorem same_refl : ∀ (n : Nat) (x : PV), Dp n x → Lib.d_law_sameN n [x, x] = .ok (.bl true)
  | 0, _, h => h.elim
  | n + 1, x, h => by
    have loop : ∀ (c : List PV → PV) (hc : ∀ xs i, oIx (c xs) (.int i) = .opt (atI xs i)) (xs : List PV), (∀ x ∈ xs, Dp n x) → ∃ y, forL (.n 2) (Lib.lp1_law_same (Lib.d_law_sameN n)) [some (c xs), some (c xs), none] (rng 0 (xs.length : Int)) = .ok (.nx [some (c xs), some (c xs), y]) := fun c hc xs hx => by
      obtain ⟨e, h1, y, rfl⟩ := forL_inv (tg := .n 2) (fb := Lib.lp1_law_same (Lib.d_law_sameN n)) (xs := rng 0 (xs.length : Int)) (env := [some (c xs), some (c xs), none])
        (fun k e => ∃ y, e = [some (c xs), some (c xs), y]) ⟨none, rfl⟩ fun k x e hk ⟨y, he⟩ => by
          obtain ⟨hv, hk⟩ := rng_get hk
          subst hv he
          have hk : k < xs.length := by omega
          rw [Int.zero_add]
          have e1 : oIx (c xs) (.int k) = .ok xs[k] := by rw [hc, atI_natCast, List.getElem?_eq_getElem hk]; rfl
          have := same_refl n xs[k] (hx _ (List.getElem_mem _))
          refine ⟨_, rfl, [some (c xs), some (c xs), some (.int k)], ?_, _, rfl⟩
          simp only [Lib.lp1_law_same]
          simp [e1, this]
      exact ⟨y, h1⟩
    cases x with
    | lst xs =>
      obtain ⟨hl, hx⟩ := h
      have hl : xs.length < 4611686018427387904 := by omega
      obtain ⟨y, hy⟩ := loop .lst (fun _ _ => rfl) xs hx
      simp [Lib.d_law_sameN, Lib.b_law_same, hl, hy]
    | tup xs =>
      obtain ⟨hl, hx⟩ := h
      have hl : xs.length < 4611686018427387904 := by omega
      obtain ⟨y, hy⟩ := loop .tup (fun _ _ => rfl) xs hx
      simp [Lib.d_law_sameN, Lib.b_law_same, hl, hy]
    | ro ns => exact h.elim
    | str s => simp [Lib.d_law_sameN, Lib.b_law_same, show PyData.strOk s = true from h]
    | _ => simp [Lib.d_law_sameN, Lib.b_law_same]
theorem e_same {x : PV} (h : Dp 14 x) : Lib.d_law_same [x, x] = .ok (.bl true) := same_refl 14 x h
theorem copy_id : ∀ (n : Nat) (x : PV), Dp n x → Lib.d_law_copyN n [x] = .ok x
  | 0, _, h => h.elim
  | n + 1, x, h => by
    cases x with
    | lst xs =>
      have := compL_map (g := tgS (.n 1)) (fe := eFun (Lib.d_law_copyN n) (aCons (eV 1) aNil)) (env := [some (.lst xs), none]) id id xs fun x hx => ⟨[some (.lst xs), some x], rfl, by simp [copy_id n x (h.2 x hx)]⟩
      simp only [tgS, List.map_id_fun, id_eq] at this
      simp [Lib.d_law_copyN, Lib.b_law_copy, this, h.1]
    | tup xs =>
      have := compL_map (g := tgS (.n 1)) (fe := eFun (Lib.d_law_copyN n) (aCons (eV 1) aNil)) (env := [some (.tup xs), none]) id id xs fun x hx => ⟨[some (.tup xs), some x], rfl, by simp [copy_id n x (h.2 x hx)]⟩
      simp only [tgS, List.map_id_fun, id_eq] at this
      simp [Lib.d_law_copyN, Lib.b_law_copy, this, h.1]
    | ro ns => exact h.elim
    | _ => simp [Lib.d_law_copyN, Lib.b_law_copy]
theorem e_copy {x : PV} (h : Dp 14 x) : Lib.d_law_copy [x] = .ok x := copy_id 14 x h
end Pw

namespace Pw
open PySem L2
/-! ### while -/
theorem sWhile_ok {c : Env → Rs Bool} {b : Env → Rs Out} {m : Nat} {env : Env} {o : Out} (h : whileN c b m env = .ok o) : sWhile c b env = .ok o := by
  have hn : whileN c b m env ≠ .stuck := by rw [h]; intro e; cases e
  have ex : ∃ m, whileN c b m env ≠ .stuck := ⟨m, hn⟩
  unfold sWhile
  rw [dif_pos ex]
  have h2 := ex.choose_spec
  rw [← h]
  rcases Nat.le_total m ex.choose with l | l
  · obtain ⟨d, e⟩ := Nat.exists_eq_add_of_le l
    rw [e]; exact whileN_le hn d
  · obtain ⟨d, e⟩ := Nat.exists_eq_add_of_le l
    conv => rhs; rw [e]
    exact (whileN_le h2 d).symm
/-! ### the law's own fractions: Euclid by a while -/
theorem frac_b_loop (t b : Int) (tt : Env → Rs Bool) (ht : tt = eT (eOp oGt (eV 3) (eC (.int 0)))) : ∀ (m x y : Nat), y < m → whileN tt Lib.lp1_law_frac_b m [some (.int t), some (.int b), some (.int x), some (.int y)] = .ok (.nx [some (.int t), some (.int b), some (.int (Nat.gcd x y : Nat)), some (.int 0)])
  | 0, _, _, h => absurd h (Nat.not_lt_zero _)
  | m + 1, x, y, h => by
    subst ht
    rw [whileN]
    by_cases hy : 0 < y
    · have ih := frac_b_loop t b _ rfl m y (x % y) (by have := Nat.mod_lt x hy; omega)
      rw [Nat.gcd_comm, ← Nat.gcd_rec, Nat.gcd_comm] at ih
      have e : ((x % y : Nat) : Int) = (x : Int) % y := Int.natCast_emod ..
      rw [e] at ih
      simp only [Lib.lp1_law_frac_b] at ih ⊢
      simp [hy, ih]
    · have : y = 0 := by omega
      subst this
      simp
theorem e_frac_b {t b : Int} {s : Nat} (hb : b.natAbs < 2 ^ s) (h0 : 0 < b) (hs : s < 9000) : Lib.d_law_frac_b [.int t, .int b] = .ok (fr (Rat.divInt t b)) := by
  have gpos : 0 < Nat.gcd t.natAbs b.natAbs := Nat.gcd_pos_of_pos_right _ (by omega)
  have glt : (Nat.gcd t.natAbs b.natAbs).log2 < 9000 := by
    have : Nat.gcd t.natAbs b.natAbs < 2 ^ s := Nat.lt_of_le_of_lt (Nat.gcd_le_right _ (by omega)) hb
    have := log2_le this
    omega
  have bs : b.sign = 1 := Int.sign_eq_one_of_pos h0
  have num : (Rat.divInt t b).num = t / (Nat.gcd t.natAbs b.natAbs : Nat) := by
    rw [Rat.num_divInt, bs, Int.one_mul]
    congr 1
    rw [Int.gcd, Nat.gcd_comm]
  have den : ((Rat.divInt t b).den : Int) = b / (Nat.gcd t.natAbs b.natAbs : Nat) := by
    rw [Rat.den_divInt, if_neg (by omega), Int.gcd, Nat.gcd_comm]
    rw [Int.natCast_ediv, Int.natAbs_of_nonneg (by omega)]
  have l := sWhile_ok (frac_b_loop t b _ rfl (b.natAbs + 1) t.natAbs b.natAbs (Nat.lt_succ_self _))
  have eb : (b.natAbs : Int) = b := by omega
  rw [eb] at l
  have c1 : (0 : Int) < ((Nat.gcd t.natAbs b.natAbs : Nat) : Int) := by omega
  simp only [Lib.d_law_frac_b, Lib.b_law_frac_b]
  have ea : (if t < 0 then -t else t) = (t.natAbs : Int) := by split <;> omega
  simp [ea, l, glt, fr, num, den, gpos]
section
variable {a b : Rat} {s t u : Nat}
theorem den_mul_pos : 0 < (a.den : Int) * (b.den : Int) := Int.mul_pos (den_pos_int a) (den_pos_int b)
theorem e_plus_b (ha : Sz s a) (hb : Sz t b) (h : s + t < 8000) : Lib.d_law_plus_b [fr a, fr b] = .ok (fr (a + b)) := by
  obtain ⟨m1, m2, m3, _⟩ := ha.mulOk hb (by omega)
  obtain ⟨h1, h2, h3, _⟩ := ha.parts hb
  have := e_frac_b (t := a.num * b.den + b.num * a.den) h3 den_mul_pos (by omega)
  rw [raw_add] at this
  simp [Lib.d_law_plus_b, Lib.b_law_plus_b, fr, m1, m2, m3]
  rw [this]; rfl
theorem e_minus_b (ha : Sz s a) (hb : Sz t b) (h : s + t < 8000) : Lib.d_law_minus_b [fr a, fr b] = .ok (fr (a - b)) := by
  obtain ⟨m1, m2, m3, _⟩ := ha.mulOk hb (by omega)
  obtain ⟨h1, h2, h3, _⟩ := ha.parts hb
  have := e_frac_b (t := a.num * b.den - b.num * a.den) h3 den_mul_pos (by omega)
  rw [raw_sub] at this
  simp [Lib.d_law_minus_b, Lib.b_law_minus_b, fr, m1, m2, m3]
  rw [this]; rfl
end
@[simp ↓] theorem oIx_fr0 (q : Rat) : oIx (fr q) (.int 0) = .ok (.int q.num) := by simp [fr]
@[simp ↓] theorem oIx_fr1 (q : Rat) : oIx (fr q) (.int 1) = .ok (.int q.den) := by simp [fr]
@[simp ↓] theorem noL_fr (q : Rat) : noL (fr q) = true := by simp [fr]
@[simp ↓] theorem tyN_fr (q : Rat) : tyN (fr q) = "tuple" := rfl
@[simp ↓] theorem shp_fr (q : Rat) : shp (fr q) = true := by simp [fr]
@[simp] theorem dp_fr (n : Nat) (q : Rat) : Dp (n + 2) (fr q) := by simp [fr, Dp]
theorem fr_int (n : Int) : fr (n : Rat) = .tup [.int n, .int 1] := rfl
/-! ### sizes by a common bottom -/
/-- a fraction over `D` with top at most `M` -/
def Gr (D M : Nat) (q : Rat) : Prop := 0 < D ∧ ∃ z : Int, q * (D : Rat) = (z : Rat) ∧ z.natAbs ≤ M
theorem Gr.le {D M N : Nat} {q : Rat} (h : Gr D M q) (l : M ≤ N) : Gr D N q := ⟨h.1, h.2.imp fun z hz => ⟨hz.1, by omega⟩⟩
theorem Gr.add {D M N : Nat} {p q : Rat} (h : Gr D M p) (k : Gr D N q) : Gr D (M + N) (p + q) := by
  obtain ⟨h0, z, hz, lz⟩ := h
  obtain ⟨_, w, hw, lw⟩ := k
  exact ⟨h0, z + w, by rw [Rat.intCast_add]; grind, by omega⟩
theorem Gr.sub {D M N : Nat} {p q : Rat} (h : Gr D M p) (k : Gr D N q) : Gr D (M + N) (p - q) := by
  obtain ⟨h0, z, hz, lz⟩ := h
  obtain ⟨_, w, hw, lw⟩ := k
  exact ⟨h0, z - w, by rw [Rat.intCast_sub]; grind, by omega⟩
theorem Gr.int {D : Nat} (h0 : 0 < D) (n : Int) : Gr D (n.natAbs * D) (n : Rat) := ⟨h0, n * D, by rw [Rat.intCast_mul, Rat.intCast_natCast], by rw [Int.natAbs_mul, Int.natAbs_natCast]; exact Nat.le_refl _⟩
theorem Gr.divInt {D c : Nat} {t b : Int} (hb : b ≠ 0) (e : b * c = D) (h0 : 0 < D) : Gr D (t.natAbs * c) (Rat.divInt t b) := by
  refine ⟨h0, t * c, ?_, by rw [Int.natAbs_mul, Int.natAbs_natCast]; exact Nat.le_refl _⟩
  have hb' : (b : Rat) ≠ 0 := fun h => hb (Rat.intCast_inj.mp h)
  have eD : (D : Rat) = (b : Rat) * (c : Rat) := by rw [← Rat.intCast_natCast D, ← e, Rat.intCast_mul, Rat.intCast_natCast]
  rw [eD, Rat.divInt_eq_div, Rat.intCast_mul, Rat.intCast_natCast]
  have := Rat.mul_inv_cancel _ hb'
  rw [Rat.div_def]
  grind
theorem Gr.sz {D M s : Nat} {q : Rat} (h : Gr D M q) (hM : M < 2 ^ s) (hD : D < 2 ^ s) : Sz s q := by
  obtain ⟨h0, z, hz, lz⟩ := h
  have hD' : ((D : Int) : Rat) ≠ 0 := fun h => by
    have := (Rat.intCast_inj (a := (D : Int)) (b := 0)).mp h
    omega
  have e : q = Rat.divInt z (D : Int) := by
    rw [Rat.divInt_eq_div, Rat.div_def, Rat.intCast_natCast] at *
    have := Rat.mul_inv_cancel _ hD'
    grind
  rw [e]
  exact divInt_sz (Nat.lt_of_le_of_lt lz hM) (by rw [Int.natAbs_natCast]; exact hD) (by omega)
theorem Gr.take {D M : Nat} {qs : List Rat} (h0 : 0 < D) (h : ∀ q ∈ qs, Gr D M q) : ∀ k : Nat, k ≤ qs.length → Gr D (k * M) (qs.take k).sum
  | 0, _ => ⟨h0, 0, by simp [Rat.zero_mul], by simp⟩
  | k + 1, hk => by
    have e : qs[k]? = some qs[k] := by simp [show k < qs.length by omega]
    rw [sum_take_succ e, Nat.succ_mul]
    exact (Gr.take h0 h k (by omega)).add (h qs[k] (List.getElem_mem _))
theorem e_sumG {fb : Env → Rs Out} {v : PV} {qs : List Rat} {t : Nat} (h : ∀ k, k ≤ qs.length → Sz t (qs.take k).sum)
    (hp : ∀ {a b : Rat} {y : Option PV}, b ∈ qs → Sz t a → fb [some v, some (fr a), some (fr b)] = .ok (.nx [some v, some (fr (a + b)), some (fr b)])) (x0 : Option PV) :
    ∃ y, forL (.n 2) fb [some v, some (fr 0), x0] (qs.map fr) = .ok (.nx [some v, some (fr qs.sum), y]) := by
  obtain ⟨e, h1, h2⟩ := forL_inv (tg := .n 2) (fb := fb) (xs := qs.map fr) (env := [some v, some (fr 0), x0])
    (fun k e => ∃ y, e = [some v, some (fr (qs.take k).sum), y]) ⟨x0, by simp⟩ fun k x e hx ⟨y, he⟩ => by
      rw [List.getElem?_map] at hx
      obtain ⟨q, hq, rfl⟩ := Option.map_eq_some_iff.mp hx
      subst he
      have hk : k < qs.length := (List.getElem?_eq_some_iff.mp hq).1
      have := hp (y := none) (List.mem_of_getElem? hq) (h k (by omega))
      rw [← sum_take_succ hq] at this
      exact ⟨_, rfl, _, this, _, rfl⟩
  obtain ⟨y, rfl⟩ := h2
  rw [List.length_map, List.take_length] at h1
  exact ⟨y, h1⟩
theorem e_sum_ofG {qs : List Rat} {s t : Nat} (h : ∀ q ∈ qs, Sz s q) (h2 : ∀ k, k ≤ qs.length → Sz t (qs.take k).sum) (hz : t + s < 8000) : Lib.d_sum_of [.lst (qs.map fr)] = .ok (fr qs.sum) := by
  obtain ⟨y, hy⟩ := e_sumG (fb := Lib.lp1_sum_of) (v := .lst (qs.map fr)) h2 (fun hb ha => by
    simp [Lib.lp1_sum_of, e_plus ha (h _ hb) (by omega)]) none
  rw [fr_zero] at hy
  simp [Lib.d_sum_of, Lib.b_sum_of, Lib.c_ZERO, hy]
/-! ### loops over tables -/
@[simp] theorem tab_zero {α : Type} (f : Nat → α) : tab 0 f = [] := rfl

@[simp] theorem atI_tab {α : Type} (n : Nat) (f : Nat → α) (i : Int) : atI (tab n f) i = if 0 ≤ i ∧ i < n then some (f i.toNat) else if i < 0 ∧ 0 ≤ i + n then some (f (i + n).toNat) else none := by
  by_cases h : 0 ≤ i
  · obtain ⟨k, rfl⟩ := Int.eq_ofNat_of_zero_le h
    rw [atI_natCast, tab_get, Int.toNat_natCast]
    by_cases hk : k < n
    · rw [if_pos hk, if_pos (by omega)]
    · rw [if_neg hk, if_neg (by omega), if_neg (by omega)]
  · unfold atI ixN
    rw [tab_length, if_neg h]
    by_cases hk : -(n : Int) ≤ i
    · rw [if_pos hk, if_neg (by omega), if_pos (by omega), Option.bind_some, tab_get, if_pos (by omega)]
    · rw [if_neg hk, if_neg (by omega), if_neg (by omega)]; rfl
theorem forT {fb : Env → Rs Out} {s n : Nat} {f : Nat → PV} {env : Env} (I : Nat → Env → Prop) (h0 : I 0 env) (hs : ∀ k e, k < n → I k e → ∃ e2, fb (e.set s (some (f k))) = .ok (.nx e2) ∧ I (k + 1) e2) :
    ∃ e, forL (.n s) fb env (tab n f) = .ok (.nx e) ∧ I n e := by
  have := forL_inv (tg := .n s) (fb := fb) (xs := tab n f) I h0 fun k x e hx hI => by
    rw [tab_get] at hx
    by_cases hk : k < n
    · rw [if_pos hk] at hx
      cases hx
      exact ⟨_, rfl, hs k e hk hI⟩
    · rw [if_neg hk] at hx; cases hx
  rwa [tab_length] at this
theorem forN {fb : Env → Rs Out} {s n : Nat} {env : Env} (I : Nat → Env → Prop) (h0 : I 0 env) (hs : ∀ k e, k < n → I k e → ∃ e2, fb (e.set s (some (.int (k : Nat)))) = .ok (.nx e2) ∧ I (k + 1) e2) :
    ∃ e, forL (.n s) fb env (rng 0 (n : Int)) = .ok (.nx e) ∧ I n e := by
  rw [rng_tab]; exact forT I h0 hs
theorem forT_ret {fb : Env → Rs Out} {s n : Nat} {f : Nat → PV} {env : Env} (I : Nat → Env → Prop) (R : PV → Prop) (h0 : I 0 env) (hs : ∀ k e, k < n → I k e → (∃ e2, fb (e.set s (some (f k))) = .ok (.nx e2) ∧ I (k + 1) e2) ∨ ∃ y, fb (e.set s (some (f k))) = .ok (.rt y) ∧ R y) :
    (∃ e, forL (.n s) fb env (tab n f) = .ok (.nx e) ∧ I n e) ∨ ∃ y, forL (.n s) fb env (tab n f) = .ok (.rt y) ∧ R y := by
  have := forL_ret (tg := .n s) (fb := fb) (xs := tab n f) I R h0 fun k x e hx hI => by
    rw [tab_get] at hx
    by_cases hk : k < n
    · rw [if_pos hk] at hx
      cases hx
      exact ⟨_, rfl, hs k e hk hI⟩
    · rw [if_neg hk] at hx; cases hx
  rwa [tab_length] at this
theorem compT {fe : Env → Rs PV} {s n : Nat} {f g : Nat → PV} {env : Env} (h : ∀ k, k < n → fe (env.set s (some (f k))) = .ok (g k)) : compL (tgS (.n s)) tYesD fe env (tab n f) = .ok (tab n g) := by
  unfold tab
  have := compL_map (g := tgS (.n s)) (fe := fe) (env := env) f g (List.range n) fun k hk => ⟨_, rfl, h k (List.mem_range.mp hk)⟩
  exact this
theorem compT' {fe : Env → Rs PV} {s n : Nat} {f g : Nat → PV} {env : Env} (h : ∀ k, k < n → fe (env.set s (some (f k))) = .ok (g k)) : compL (fun x e => .ok (e.set s (some x))) tYesD fe env (tab n f) = .ok (tab n g) := compT h
theorem compTf {fe : Env → Rs PV} {tt : Env → Rs Bool} {s n : Nat} {f g : Nat → PV} {p : Nat → Bool} {env : Env} (h : ∀ k, k < n → tt (env.set s (some (f k))) = .ok (p k) ∧ (p k = true → fe (env.set s (some (f k))) = .ok (g k))) : compL (fun x e => .ok (e.set s (some x))) tt fe env (tab n f) = .ok (((List.range n).filter p).map g) := by
  unfold tab
  have := compL_filter (g := tgS (.n s)) (tt := tt) (fe := fe) (env := env) f p g (List.range n) fun k hk => ⟨_, rfl, h k (List.mem_range.mp hk)⟩
  exact this
theorem e_draws {ns : List Int} {B : Nat} (hb : ∀ z ∈ ns, z.natAbs < 2 ^ B) (hB : B ≤ 1048576) (at_ n : Nat) (ha : at_ < 2 ^ 20 := by decide) (hn : n < 2 ^ 20 := by decide) : ∃ p : Nat → Nat, Lib.d_law_draws_b [.ro ns, .int at_, .int n] = .ok (.lst (tab n fun k => .int (p k : Nat))) ∧ ∀ k, p k < 5040 := by
  obtain ⟨l, h1, h2, h3⟩ := e_draws_b hb hB at_ n ha hn
  have e := tab_of l
  rw [h2] at e
  refine ⟨fun k => (l.getD k default).toNat, ?_, fun k => ?_⟩
  · rw [h1]
    conv => lhs; rw [e, tab_map]
    congr 2
    exact tab_ext fun k hk => by
      have := h3 (l.getD k default) (by rw [List.getD_eq_getElem?_getD, List.getElem?_eq_getElem (by omega)]; exact List.getElem_mem _)
      rw [show ((l.getD k default).toNat : Int) = l.getD k default by omega]
  · show (l.getD k default).toNat < 5040
    by_cases hk : k < l.length
    · have := h3 (l.getD k default) (by rw [List.getD_eq_getElem?_getD, List.getElem?_eq_getElem hk]; exact List.getElem_mem _)
      omega
    · rw [List.getD_eq_getElem?_getD, List.getElem?_eq_none (by omega)]; decide
theorem sum_tab_succ (n : Nat) (f : Nat → Rat) : (tab (n + 1) f).sum = (tab n f).sum + f n := by
  rw [tab_succ]; simp [List.sum_append, Rat.add_zero]
theorem take_tab {α : Type} {n k : Nat} (h : k ≤ n) (f : Nat → α) : (tab n f).take k = tab k f := by
  apply List.ext_getElem?
  intro j
  rw [List.getElem?_take, tab_get, tab_get]
  by_cases hj : j < k
  · rw [if_pos hj, if_pos hj, if_pos (by omega)]
  · rw [if_neg hj, if_neg hj]
theorem mem_tab {α : Type} {n : Nat} {f : Nat → α} {x : α} : x ∈ tab n f ↔ ∃ k, k < n ∧ f k = x := by
  unfold tab; simp
theorem enm_tab (n : Nat) (f : Nat → PV) : enm (tab n f) = tab n fun k => .tup [.int (k : Nat), f k] := by
  apply List.ext_getElem?
  intro k
  unfold enm
  rw [List.getElem?_map, List.getElem?_zipIdx, tab_get, tab_get]
  by_cases h : k < n
  · rw [if_pos h, if_pos h]; simp
  · rw [if_neg h, if_neg h]; rfl
theorem zp_tab (n : Nat) (f g : Nat → PV) : zp (tab n f) (tab n g) = tab n fun k => .tup [f k, g k] := by
  apply List.ext_getElem?
  intro k
  unfold zp
  rw [tab_get]
  by_cases h : k < n
  · rw [if_pos h]; simp [List.getElem?_zipWith, List.getElem?_map, h]
  · rw [if_neg h]; simp [List.getElem?_zipWith, List.getElem?_map, h]
end Pw

namespace Pw
open PySem L2
/-! ### a run, step by step -/
/-- the run gives a value, and the value is so -/
def Wp {α : Type} (r : Rs α) (P : α → Prop) : Prop := ∃ a, r = .ok a ∧ P a
@[simp] theorem Rs.bind_assoc {α β γ : Type} (r : Rs α) (f : α → Rs β) (g : β → Rs γ) : (r.bind f).bind g = r.bind fun a => (f a).bind g := by cases r <;> rfl
@[simp] theorem wp_ok {α : Type} {a : α} {P : α → Prop} : Wp (.ok a) P ↔ P a := ⟨fun ⟨_, e, h⟩ => by cases e; exact h, fun h => ⟨a, rfl, h⟩⟩
theorem Wp.mono {α : Type} {r : Rs α} {P Q : α → Prop} (h : Wp r P) (i : ∀ a, P a → Q a) : Wp r Q := by
  obtain ⟨a, e, h⟩ := h; exact ⟨a, e, i a h⟩
theorem wp_of {α : Type} {r : Rs α} {a : α} (h : ∀ P : α → Prop, P a → Wp r P) : r = .ok a := by
  obtain ⟨_, e, h⟩ := h (fun x => x = a) rfl; subst h; exact e
/-- a def gives a value -/
theorem wp_run {dr n : Nat} {b : Env → Rs Out} {xs : List PV} {v : PV} (h : ∀ P : Out → Prop, P (.rt v) → Wp (b (startE n xs)) P) : runB dr n b xs = .ok v := by
  unfold runB
  rw [wp_of h]; rfl
theorem wp_runP {dr n : Nat} {b : Env → Rs Out} {xs : List PV} (J : PV → Prop) (h : ∀ P : Out → Prop, (∀ v, J v → P (.rt v)) → Wp (b (startE n xs)) P) : ∃ v, runB dr n b xs = .ok v ∧ J v := by
  obtain ⟨o, e, v, rfl, h⟩ := h (fun o => ∃ v, o = .rt v ∧ J v) fun v hv => ⟨v, rfl, hv⟩
  refine ⟨v, ?_, h⟩
  unfold runB
  rw [e]; rfl
theorem wp_thn {r : Rs Out} {g : Env → Rs Out} {P : Out → Prop} (h : Wp r fun o => match o with | .nx e => Wp (g e) P | .rt y => P (.rt y)) : Wp (thn r g) P := by
  obtain ⟨o, rfl, h⟩ := h
  cases o with
  | nx e => exact h
  | rt y => exact ⟨_, rfl, h⟩
section
variable {fb g : Env → Rs Out} {fe : Env → Rs PV} {tt : Env → Rs Bool} {s n : Nat} {f : Nat → PV} {env : Env} {P : Out → Prop}
/-- what a body leaves -/
def Nx (J : Env → Prop) (r : Rs Out) : Prop := ∀ P : Out → Prop, (∀ e, J e → P (.nx e)) → Wp r P
def NxR (J : Env → Prop) (R : PV → Prop) (r : Rs Out) : Prop := ∀ P : Out → Prop, (∀ e, J e → P (.nx e)) → (∀ y, R y → P (.rt y)) → Wp r P
theorem wp_forT (I : Nat → Env → Prop) (h0 : I 0 env) (hs : ∀ k e, k < n → I k e → Nx (I (k + 1)) (fb (e.set s (some (f k))))) (hk : ∀ e, I n e → Wp (g e) P) : Wp (thn (forL (.n s) fb env (tab n f)) g) P := by
  obtain ⟨e, h1, h2⟩ := forT (fb := fb) (s := s) (n := n) (f := f) I h0 fun k e hk hI => by
    obtain ⟨o, h1, e2, rfl, h2⟩ := hs k e hk hI (fun o => ∃ e2, o = .nx e2 ∧ I (k + 1) e2) fun e h => ⟨e, rfl, h⟩
    exact ⟨e2, h1, h2⟩
  rw [h1]; exact hk e h2
theorem wp_forTR (I : Nat → Env → Prop) (R : PV → Prop) (h0 : I 0 env) (hs : ∀ k e, k < n → I k e → NxR (I (k + 1)) R (fb (e.set s (some (f k))))) (hk : ∀ e, I n e → Wp (g e) P) (hr : ∀ y, R y → P (.rt y)) : Wp (thn (forL (.n s) fb env (tab n f)) g) P := by
  rcases forT_ret (fb := fb) (s := s) (n := n) (f := f) I R h0 fun k e hk hI => by
    obtain ⟨o, h1, h2⟩ := hs k e hk hI (fun o => (∃ e2, o = .nx e2 ∧ I (k + 1) e2) ∨ ∃ y, o = .rt y ∧ R y) (fun e h => .inl ⟨e, rfl, h⟩) fun y h => .inr ⟨y, rfl, h⟩
    rcases h2 with ⟨e2, rfl, h2⟩ | ⟨y, rfl, h2⟩
    · exact .inl ⟨e2, h1, h2⟩
    · exact .inr ⟨y, h1, h2⟩
    with ⟨e, h1, h2⟩ | ⟨y, h1, h2⟩
  · rw [h1]; exact hk e h2
  · rw [h1]; exact ⟨_, rfl, hr y h2⟩
theorem wp_forTg {tg : Tg} (I : Nat → Env → Prop) (h0 : I 0 env) (hs : ∀ k e, k < n → I k e → ∃ e1, tgS tg (f k) e = .ok e1 ∧ Nx (I (k + 1)) (fb e1)) (hk : ∀ e, I n e → Wp (g e) P) : Wp (thn (forL tg fb env (tab n f)) g) P := by
  obtain ⟨e, h1, h2⟩ := forL_inv (tg := tg) (fb := fb) (xs := tab n f) I h0 fun k x e hx hI => by
    rw [tab_get] at hx
    by_cases hk : k < n
    · rw [if_pos hk] at hx
      cases hx
      obtain ⟨e1, h0, h1⟩ := hs k e hk hI
      obtain ⟨o, h1, e2, rfl, h2⟩ := h1 (fun o => ∃ e2, o = .nx e2 ∧ I (k + 1) e2) fun e h => ⟨e, rfl, h⟩
      exact ⟨e1, h0, e2, h1, h2⟩
    · rw [if_neg hk] at hx; cases hx
  rw [h1]; rw [tab_length] at h2; exact hk e h2
theorem wp_for (I : Nat → Env → Prop) (h0 : I 0 env) (hs : ∀ k e, k < n → I k e → Nx (I (k + 1)) (fb (e.set s (some (.int (k : Nat)))))) (hk : ∀ e, I n e → Wp (g e) P) : Wp (thn (forL (.n s) fb env (rng 0 (n : Int))) g) P := by
  rw [rng_tab]; exact wp_forT I h0 hs hk
theorem wp_forR (I : Nat → Env → Prop) (R : PV → Prop) (h0 : I 0 env) (hs : ∀ k e, k < n → I k e → NxR (I (k + 1)) R (fb (e.set s (some (.int (k : Nat)))))) (hk : ∀ e, I n e → Wp (g e) P) (hr : ∀ y, R y → P (.rt y)) : Wp (thn (forL (.n s) fb env (rng 0 (n : Int))) g) P := by
  rw [rng_tab]; exact wp_forTR I R h0 hs hk hr
/-- a comprehension in a statement, in an expression -/
theorem wp_comp {K : List PV → Rs Out} (gg : Nat → PV) (h : ∀ k, k < n → fe (env.set s (some (f k))) = .ok (gg k)) (hk : Wp (thn (K (tab n gg)) g) P) : Wp (thn ((compL (tgS (.n s)) tYesD fe env (tab n f)).noexc.bind K) g) P := by
  rw [compT (g := gg) h]; exact hk
theorem wp_compN {K : List PV → Rs Out} (gg : Nat → PV) (h : ∀ k, k < n → fe (env.set s (some (.int (k : Nat)))) = .ok (gg k)) (hk : Wp (thn (K (tab n gg)) g) P) : Wp (thn ((compL (tgS (.n s)) tYesD fe env (rng 0 (n : Int))).noexc.bind K) g) P := by
  rw [rng_tab]; exact wp_comp gg h hk
theorem wp_compF {K : List PV → Rs Out} (p : Nat → Bool) (gg : Nat → PV) (h : ∀ k, k < n → tt (env.set s (some (f k))) = .ok (p k)) (h2 : ∀ k, k < n → p k = true → fe (env.set s (some (f k))) = .ok (gg k)) (hk : Wp (thn (K (((List.range n).filter p).map gg)) g) P) :
    Wp (thn ((compL (tgS (.n s)) tt fe env (tab n f)).noexc.bind K) g) P := by
  have := compTf (g := gg) (p := p) fun k hk => ⟨h k hk, h2 k hk⟩
  have this : compL (tgS (.n s)) tt fe env (tab n f) = _ := this
  rw [this]; exact hk
theorem wp_compFN {K : List PV → Rs Out} (p : Nat → Bool) (gg : Nat → PV) (h : ∀ k, k < n → tt (env.set s (some (.int (k : Nat)))) = .ok (p k)) (h2 : ∀ k, k < n → p k = true → fe (env.set s (some (.int (k : Nat)))) = .ok (gg k)) (hk : Wp (thn (K (((List.range n).filter p).map gg)) g) P) :
    Wp (thn ((compL (tgS (.n s)) tt fe env (rng 0 (n : Int))).noexc.bind K) g) P := by
  rw [rng_tab]; exact wp_compF p gg h h2 hk
end
end Pw

namespace Pw.K62
open PySem L2 Pw
/-! ### the text by places -/
def top (i : Nat) : Stmt := PySem.Challenge.pw_ridesshared_k62_whole_cents_lose_nothing.main.body.getD i (.Pass ⟨0, 0, 0, 0⟩)
structure Tx (mg : Str → Option Value) : Prop where
  z_abs : mg "abs" = none
  z_bool : mg "bool" = none
  z_enumerate : mg "enumerate" = none
  z_int : mg "int" = none
  z_isinstance : mg "isinstance" = none
  z_len : mg "len" = none
  z_list : mg "list" = none
  z_range : mg "range" = none
  z_str : mg "str" = none
  z_sum : mg "sum" = none
  z_tuple : mg "tuple" = none
  z_zip : mg "zip" = none
  m_gcd : mg "gcd" = some (.builtin "math.gcd")
abbrev c_ZERO := Pw.Lib.c_ZERO
/-! #### fraction -/
abbrev s_fraction : Stmt := top 3
abbrev N_fraction : List Str := ["top", "bottom", "common"]
abbrev ps_fraction : List Str := ["top", "bottom"]
noncomputable abbrev b_fraction := Pw.Lib.b_fraction
noncomputable abbrev d_fraction := Pw.Lib.d_fraction
/-! #### whole -/
abbrev s_whole : Stmt := top 4
abbrev N_whole : List Str := ["number"]
abbrev ps_whole : List Str := ["number"]
noncomputable abbrev b_whole := Pw.Lib.b_whole
noncomputable abbrev d_whole := Pw.Lib.d_whole
/-! #### plus -/
abbrev s_plus : Stmt := top 5
abbrev N_plus : List Str := ["one", "other"]
abbrev ps_plus : List Str := ["one", "other"]
noncomputable abbrev b_plus := Pw.Lib.b_plus
noncomputable abbrev d_plus := Pw.Lib.d_plus
/-! #### minus -/
abbrev s_minus : Stmt := top 6
abbrev N_minus : List Str := ["one", "other"]
abbrev ps_minus : List Str := ["one", "other"]
noncomputable abbrev b_minus := Pw.Lib.b_minus
noncomputable abbrev d_minus := Pw.Lib.d_minus
/-! #### is_less -/
abbrev s_is_less : Stmt := top 7
abbrev N_is_less : List Str := ["one", "other"]
abbrev ps_is_less : List Str := ["one", "other"]
noncomputable abbrev b_is_less := Pw.Lib.b_is_less
noncomputable abbrev d_is_less := Pw.Lib.d_is_less
/-! #### sum_of -/
abbrev s_sum_of : Stmt := top 8
abbrev N_sum_of : List Str := ["some", "found", "one"]
abbrev ps_sum_of : List Str := ["some"]
noncomputable abbrev b_sum_of := Pw.Lib.b_sum_of
noncomputable abbrev d_sum_of := Pw.Lib.d_sum_of
/-! #### greater -/
abbrev s_greater : Stmt := top 9
abbrev N_greater : List Str := ["one", "other"]
abbrev ps_greater : List Str := ["one", "other"]
noncomputable abbrev b_greater := Pw.Lib.b_greater
noncomputable abbrev d_greater := Pw.Lib.d_greater
/-! #### floor_of -/
abbrev s_floor_of : Stmt := top 11
abbrev N_floor_of : List Str := ["amount"]
abbrev ps_floor_of : List Str := ["amount"]
noncomputable def b_floor_of : Env → Rs Out := (sSeq (sRet (eOp oDiv (eOp oIx (eV 0) (eC (.int 0))) (eOp oIx (eV 0) (eC (.int 1))))) sNil)
noncomputable def d_floor_of : List PV → Rs PV := runB 0 1 b_floor_of
/-! #### rest_of -/
abbrev s_rest_of : Stmt := top 12
abbrev N_rest_of : List Str := ["amount"]
abbrev ps_rest_of : List Str := ["amount"]
noncomputable def b_rest_of : Env → Rs Out := (sSeq (sRet (eFun d_minus (aCons (eV 0) (aCons (eFun d_whole (aCons (eFun d_floor_of (aCons (eV 0) aNil)) aNil)) aNil)))) sNil)
noncomputable def d_rest_of : List PV → Rs PV := runB 0 1 b_rest_of
/-! #### place_of_greatest -/
abbrev s_place_of_greatest : Stmt := top 13
abbrev N_place_of_greatest : List Str := ["rests", "best", "place", "rest"]
abbrev ps_place_of_greatest : List Str := ["rests"]
noncomputable def lp1_place_of_greatest : Env → Rs Out := (sSeq (sIf (eTru (eFun d_is_less (aCons (eOp oIx (eV 0) (eV 1)) (aCons (eV 3) aNil)))) (sSeq (sSet 1 (eV 2)) sNil) sNil) sNil)
@[simp] noncomputable def k1_place_of_greatest (env : Env) : Rs Out := (sSeq (sRet (eV 1)) sNil) env
noncomputable def b_place_of_greatest : Env → Rs Out := (sSeq (sSet 1 (eC (.int 0))) (sSeq (sFor (iEn (aCons (eV 0) aNil)) (.t [(.n 2), (.n 3)]) lp1_place_of_greatest) k1_place_of_greatest))
noncomputable def d_place_of_greatest : List PV → Rs PV := runB 0 4 b_place_of_greatest
/-! #### whole_cents -/
abbrev s_whole_cents : Stmt := top 14
abbrev N_whole_cents : List Str := ["amounts", "found", "amount", "rests", "lacking", "_", "place"]
abbrev ps_whole_cents : List Str := ["amounts"]
noncomputable def lp1_whole_cents : Env → Rs Out := (sSeq (sSet 6 (eFunB 0 d_place_of_greatest (aCons (eV 3) aNil))) (sSeq (sPutA 1 ioAdd (eV 6) (eC (.int 1))) (sSeq (sPut 3 (eV 6) (eFun d_whole (aCons (eNeg (eC (.int 1))) aNil))) sNil)))
@[simp] noncomputable def k1_whole_cents (env : Env) : Rs Out := (sSeq (sRet (eV 1)) sNil) env
noncomputable def b_whole_cents : Env → Rs Out := (sSeq (sSet 1 (eLc [2] (iE (eV 0)) (.n 2) tYesD (eFun d_floor_of (aCons (eV 2) aNil)))) (sSeq (sSet 3 (eLc [2] (iE (eV 0)) (.n 2) tYesD (eFun d_rest_of (aCons (eV 2) aNil)))) (sSeq (sSet 4 (eOp oIx (eFunB 0 d_sum_of (aCons (eV 3) aNil)) (eC (.int 0)))) (sSeq (sFor (iR (aCons (eV 4) aNil)) (.n 5) lp1_whole_cents) k1_whole_cents))))
noncomputable def d_whole_cents : List PV → Rs PV := runB 0 7 b_whole_cents
/-! #### difference -/
abbrev s_difference : Stmt := top 15
abbrev N_difference : List Str := ["one", "other"]
abbrev ps_difference : List Str := ["one", "other"]
noncomputable def b_difference : Env → Rs Out := (sSeq (sIf (eTru (eFun d_is_less (aCons (eV 0) (aCons (eV 1) aNil)))) (sSeq (sRet (eFun d_minus (aCons (eV 1) (aCons (eV 0) aNil)))) sNil) sNil) (sSeq (sRet (eFun d_minus (aCons (eV 0) (aCons (eV 1) aNil)))) sNil))
noncomputable def d_difference : List PV → Rs PV := runB 0 2 b_difference
/-! #### greatest_difference -/
abbrev s_greatest_difference : Stmt := top 16
abbrev N_greatest_difference : List Str := ["amounts", "cents", "found", "amount", "number"]
abbrev ps_greatest_difference : List Str := ["amounts", "cents"]
noncomputable def lp1_greatest_difference : Env → Rs Out := (sSeq (sSet 2 (eFun d_greater (aCons (eV 2) (aCons (eFun d_difference (aCons (eV 3) (aCons (eFun d_whole (aCons (eV 4) aNil)) aNil))) aNil)))) sNil)
@[simp] noncomputable def k1_greatest_difference (env : Env) : Rs Out := (sSeq (sRet (eV 2)) sNil) env
noncomputable def b_greatest_difference : Env → Rs Out := (sSeq (sSet 2 (eC c_ZERO)) (sSeq (sFor (iZp (aCons (eV 0) (aCons (eV 1) aNil))) (.t [(.n 3), (.n 4)]) lp1_greatest_difference) k1_greatest_difference))
noncomputable def d_greatest_difference : List PV → Rs PV := runB 0 5 b_greatest_difference
/-! #### _law_draws -/
abbrev s_law_draws : Stmt := top 18
abbrev N_law_draws : List Str := ["script", "at", "count", "cell", "by_digits", "found", "k", "mixed"]
abbrev ps_law_draws : List Str := ["script", "at", "count"]
noncomputable abbrev b_law_draws := Pw.Lib.b_law_draws_b
noncomputable abbrev d_law_draws := Pw.Lib.d_law_draws_b
/-! #### _law_like -/
abbrev s_law_like : Stmt := top 19
abbrev N_law_like : List Str := ["told", "due", "k"]
abbrev ps_law_like : List Str := ["told", "due"]
noncomputable abbrev b_law_like := Pw.Lib.b_law_like
noncomputable abbrev d_law_like := Pw.Lib.d_law_like
noncomputable abbrev d_law_likeN := Pw.Lib.d_law_likeN
/-! #### _law_copy -/
abbrev s_law_copy : Stmt := top 20
abbrev N_law_copy : List Str := ["value", "part"]
abbrev ps_law_copy : List Str := ["value"]
noncomputable abbrev b_law_copy := Pw.Lib.b_law_copy
noncomputable abbrev d_law_copy := Pw.Lib.d_law_copy
noncomputable abbrev d_law_copyN := Pw.Lib.d_law_copyN
/-! #### _law_frac -/
abbrev s_law_frac : Stmt := top 21
abbrev N_law_frac : List Str := ["top", "bottom", "one", "other"]
abbrev ps_law_frac : List Str := ["top", "bottom"]
noncomputable abbrev b_law_frac := Pw.Lib.b_law_frac_b
noncomputable abbrev d_law_frac := Pw.Lib.d_law_frac_b
/-! #### _law_plus -/
abbrev s_law_plus : Stmt := top 22
abbrev N_law_plus : List Str := ["one", "other"]
abbrev ps_law_plus : List Str := ["one", "other"]
noncomputable abbrev b_law_plus := Pw.Lib.b_law_plus_b
noncomputable abbrev d_law_plus := Pw.Lib.d_law_plus_b
/-! #### _law_minus -/
abbrev s_law_minus : Stmt := top 23
abbrev N_law_minus : List Str := ["one", "other"]
abbrev ps_law_minus : List Str := ["one", "other"]
noncomputable abbrev b_law_minus := Pw.Lib.b_law_minus_b
noncomputable abbrev d_law_minus := Pw.Lib.d_law_minus_b
/-! #### _law_total -/
abbrev s_law_total : Stmt := top 24
abbrev N_law_total : List Str := ["some", "found", "one"]
abbrev ps_law_total : List Str := ["some"]
noncomputable def lp1_law_total : Env → Rs Out := (sSeq (sSet 1 (eFun d_law_plus (aCons (eV 1) (aCons (eV 2) aNil)))) sNil)
@[simp] noncomputable def k1_law_total (env : Env) : Rs Out := (sSeq (sRet (eV 1)) sNil) env
noncomputable def b_law_total : Env → Rs Out := (sSeq (sSet 1 (eTup (aCons (eC (.int 0)) (aCons (eC (.int 1)) aNil)))) (sSeq (sFor (iE (eV 0)) (.n 2) lp1_law_total) k1_law_total))
noncomputable def d_law_total : List PV → Rs PV := runB 0 3 b_law_total
/-! #### _law_floor -/
abbrev s_law_floor : Stmt := top 25
abbrev N_law_floor : List Str := ["one"]
abbrev ps_law_floor : List Str := ["one"]
noncomputable def b_law_floor : Env → Rs Out := (sSeq (sRet (eOp oDiv (eOp oIx (eV 0) (eC (.int 0))) (eOp oIx (eV 0) (eC (.int 1))))) sNil)
noncomputable def d_law_floor : List PV → Rs PV := runB 0 1 b_law_floor
/-! #### _law_rounds -/
abbrev s_law_rounds : Stmt := top 26
abbrev N_law_rounds : List Str := ["number", "amount"]
abbrev ps_law_rounds : List Str := ["number", "amount"]
noncomputable def b_law_rounds : Env → Rs Out := (sSeq (sRet (eAnd (eOp oLt (eOp oMul (eV 0) (eOp oIx (eV 1) (eC (.int 1)))) (eOp oAdd (eOp oIx (eV 1) (eC (.int 0))) (eOp oIx (eV 1) (eC (.int 1))))) (eOp oGt (eOp oMul (eV 0) (eOp oIx (eV 1) (eC (.int 1)))) (eOp oSub (eOp oIx (eV 1) (eC (.int 0))) (eOp oIx (eV 1) (eC (.int 1))))))) sNil)
noncomputable def d_law_rounds : List PV → Rs PV := runB 0 2 b_law_rounds
/-! #### _law_amounts -/
abbrev s_law_amounts : Stmt := top 27
abbrev N_law_amounts : List Str := ["script", "picks", "count", "bottoms", "found", "k", "pick", "bottom", "top", "rest"]
abbrev ps_law_amounts : List Str := ["script"]
noncomputable def lp1_law_amounts : Env → Rs Out := (sSeq (sSet 6 (eOp oIx (eV 1) (eOp oAdd (eC (.int 5)) (eV 5)))) (sSeq (sSet 7 (eOp oIx (eV 3) (eOp oIx (eLst (aCons (eC (.int 0)) (aCons (eC (.int 0)) (aCons (eC (.int 0)) (aCons (eC (.int 1)) (aCons (eC (.int 2)) (aCons (eC (.int 3)) aNil))))))) (eOp oMod (eV 6) (eC (.int 6)))))) (sSeq (sSet 8 (eOp oSub (eOp oMod (eOp oDiv (eV 6) (eC (.int 6))) (eOp oMul (eC (.int 7)) (eV 7))) (eOp oMul (eC (.int 2)) (eV 7)))) (sSeq (sIf (eT (eOp oEq (eOp oMod (eOp oIx (eV 1) (eC (.int 4))) (eC (.int 7))) (eC (.int 1)))) (sSeq (sSet 8 (eOp oAdd (eV 8) (eOp oMul (eV 6) (eOp oPow (eC (.int 10)) (eC (.int 20)))))) sNil) sNil) (sSeq (sApp 4 (eFun d_law_frac (aCons (eV 8) (aCons (eV 7) aNil)))) sNil)))))
@[simp] noncomputable def k1_law_amounts (env : Env) : Rs Out := (sSeq (sSet 9 (eFunB 0 d_law_total (aCons (eV 4) aNil))) (sSeq (sApp 4 (eFun d_law_minus (aCons (eTup (aCons (eOp oSub (eOp oAdd (eOp oDiv (eOp oIx (eV 9) (eC (.int 0))) (eOp oIx (eV 9) (eC (.int 1)))) (eOp oMod (eOp oDiv (eOp oIx (eV 1) (eC (.int 3))) (eC (.int 60))) (eC (.int 9)))) (eC (.int 4))) (aCons (eC (.int 1)) aNil))) (aCons (eV 9) aNil)))) (sSeq (sRet (eV 4)) sNil))) env
noncomputable def b_law_amounts : Env → Rs Out := (sSeq (sSet 1 (eFun d_law_draws (aCons (eV 0) (aCons (eC (.int 0)) (aCons (eC (.int 45)) aNil))))) (sSeq (sSet 2 (eOp oAdd (eC (.int 1)) (eOp oMod (eOp oIx (eV 1) (eC (.int 0))) (eC (.int 6))))) (sSeq (sIf (eT (eOp oEq (eOp oMod (eOp oIx (eV 1) (eC (.int 1))) (eC (.int 8))) (eC (.int 1)))) (sSeq (sSet 2 (eC (.int 40))) sNil) sNil) (sSeq (sSet 3 (eLst (aCons (eOp oIx (eLst (aCons (eC (.int 2)) (aCons (eC (.int 2)) (aCons (eC (.int 3)) (aCons (eC (.int 4)) (aCons (eC (.int 6)) aNil)))))) (eOp oMod (eOp oIx (eV 1) (eC (.int 2))) (eC (.int 5)))) (aCons (eOp oAdd (eC (.int 1)) (eOp oMod (eOp oIx (eV 1) (eC (.int 3))) (eC (.int 60)))) (aCons (eC (.int 12)) (aCons (eC (.int 1)) aNil)))))) (sSeq (sSet 4 (eLst aNil)) (sSeq (sFor (iR (aCons (eOp oSub (eV 2) (eC (.int 1))) aNil)) (.n 5) lp1_law_amounts) k1_law_amounts))))))
noncomputable def d_law_amounts : List PV → Rs PV := runB 0 10 b_law_amounts
/-! #### _law_due -/
abbrev s_law_due : Stmt := top 28
abbrev N_law_due : List Str := ["amounts", "rests", "one", "lacking", "found", "k", "before", "j", "side"]
abbrev ps_law_due : List Str := ["amounts"]
noncomputable def lp2_law_due : Env → Rs Out := (sSeq (sSet 8 (eOp oSub (eOp oMul (eOp oIx (eOp oIx (eV 1) (eV 7)) (eC (.int 0))) (eOp oIx (eOp oIx (eV 1) (eV 5)) (eC (.int 1)))) (eOp oMul (eOp oIx (eOp oIx (eV 1) (eV 5)) (eC (.int 0))) (eOp oIx (eOp oIx (eV 1) (eV 7)) (eC (.int 1)))))) (sSeq (sIf (tOrD (eT (eOp oGt (eV 8) (eC (.int 0)))) (tAndD (eT (eOp oEq (eV 8) (eC (.int 0)))) (eT (eOp oLt (eV 7) (eV 5))))) (sSeq (sSet 6 (eOp oAdd (eV 6) (eC (.int 1)))) sNil) sNil) sNil))
@[simp] noncomputable def k2_law_due (env : Env) : Rs Out := (sSeq (sApp 4 (eOp oAdd (eFun d_law_floor (aCons (eOp oIx (eV 0) (eV 5)) aNil)) (eCall oInt (aCons (eOp oLt (eV 6) (eV 3)) aNil)))) sNil) env
noncomputable def lp1_law_due : Env → Rs Out := (sSeq (sSet 6 (eC (.int 0))) (sSeq (sFor (iR (aCons (eCall oLen (aCons (eV 0) aNil)) aNil)) (.n 7) lp2_law_due) k2_law_due))
@[simp] noncomputable def k1_law_due (env : Env) : Rs Out := (sSeq (sRet (eV 4)) sNil) env
noncomputable def b_law_due : Env → Rs Out := (sSeq (sSet 1 (eLc [2] (iE (eV 0)) (.n 2) tYesD (eFun d_law_minus (aCons (eV 2) (aCons (eTup (aCons (eFun d_law_floor (aCons (eV 2) aNil)) (aCons (eC (.int 1)) aNil))) aNil))))) (sSeq (sSet 3 (eOp oIx (eFun d_law_total (aCons (eV 1) aNil)) (eC (.int 0)))) (sSeq (sSet 4 (eLst aNil)) (sSeq (sFor (iR (aCons (eCall oLen (aCons (eV 0) aNil)) aNil)) (.n 5) lp1_law_due) k1_law_due))))
noncomputable def d_law_due : List PV → Rs PV := runB 0 9 b_law_due
/-! #### _law_worst -/
abbrev s_law_worst : Stmt := top 29
abbrev N_law_worst : List Str := ["amounts", "cents", "found", "k", "away"]
abbrev ps_law_worst : List Str := ["amounts", "cents"]
noncomputable def lp1_law_worst : Env → Rs Out := (sSeq (sSet 4 (eFun d_law_minus (aCons (eOp oIx (eV 0) (eV 3)) (aCons (eTup (aCons (eOp oIx (eV 1) (eV 3)) (aCons (eC (.int 1)) aNil))) aNil)))) (sSeq (sSet 4 (eTup (aCons (eCall oAbs (aCons (eOp oIx (eV 4) (eC (.int 0))) aNil)) (aCons (eOp oIx (eV 4) (eC (.int 1))) aNil)))) (sSeq (sIf (eT (eOp oGt (eOp oMul (eOp oIx (eV 4) (eC (.int 0))) (eOp oIx (eV 2) (eC (.int 1)))) (eOp oMul (eOp oIx (eV 2) (eC (.int 0))) (eOp oIx (eV 4) (eC (.int 1)))))) (sSeq (sSet 2 (eV 4)) sNil) sNil) sNil)))
@[simp] noncomputable def k1_law_worst (env : Env) : Rs Out := (sSeq (sRet (eV 2)) sNil) env
noncomputable def b_law_worst : Env → Rs Out := (sSeq (sSet 2 (eTup (aCons (eC (.int 0)) (aCons (eC (.int 1)) aNil)))) (sSeq (sFor (iR (aCons (eCall oLen (aCons (eV 0) aNil)) aNil)) (.n 3) lp1_law_worst) k1_law_worst))
noncomputable def d_law_worst : List PV → Rs PV := runB 0 5 b_law_worst
/-! #### _law_near -/
abbrev s_law_near : Stmt := top 30
abbrev N_law_near : List Str := ["amounts", "whole_v", "found", "one", "longer", "row", "k"]
abbrev ps_law_near : List Str := ["amounts", "whole_v"]
noncomputable def lp2_law_near : Env → Rs Out := (sSeq (sSet 4 (eOp oAdd (eV 4) (eLc [6] (iE (eLst (aCons (eOp oSub (eC (.int 0)) (eC (.int 1))) (aCons (eC (.int 0)) (aCons (eC (.int 1)) (aCons (eC (.int 2)) aNil)))))) (.n 6) tYesD (eOp oAdd (eV 5) (eLst (aCons (eOp oAdd (eFun d_law_floor (aCons (eV 3) aNil)) (eV 6)) aNil)))))) sNil)
@[simp] noncomputable def k2_law_near (env : Env) : Rs Out := (sSeq (sSet 2 (eV 4)) sNil) env
noncomputable def lp1_law_near : Env → Rs Out := (sSeq (sSet 4 (eLst aNil)) (sSeq (sFor (iE (eV 2)) (.n 5) lp2_law_near) k2_law_near))
@[simp] noncomputable def k1_law_near (env : Env) : Rs Out := (sSeq (sRet (eLc [5] (iE (eV 2)) (.n 5) tYesD (eOp oAdd (eV 5) (eLst (aCons (eOp oSub (eV 1) (eCall oSum (aCons (eV 5) aNil))) aNil))))) sNil) env
noncomputable def b_law_near : Env → Rs Out := (sSeq (sSet 2 (eLst (aCons (eLst aNil) aNil))) (sSeq (sFor (iE (eSl (eV 0) (pSome (eC (.int 0))) (pSome (eC (.int 3))))) (.n 3) lp1_law_near) k1_law_near))
noncomputable def d_law_near : List PV → Rs PV := runB 0 7 b_law_near
/-! #### law -/
abbrev s_law : Stmt := top 31
abbrev N_law : List Str := ["script", "amounts", "kept", "due", "told", "k", "worst", "picks", "other", "few", "row"]
abbrev ps_law : List Str := ["script"]
noncomputable def lp1_law : Env → Rs Out := (sSeq (sIf (eT (eOp oLt (eOp oMul (eOp oIx (eFun d_law_worst (aCons (eV 1) (aCons (eV 10) aNil))) (eC (.int 0))) (eOp oIx (eV 6) (eC (.int 1)))) (eOp oMul (eOp oIx (eV 6) (eC (.int 0))) (eOp oIx (eFun d_law_worst (aCons (eV 1) (aCons (eV 10) aNil))) (eC (.int 1)))))) (sSeq (sRet (eC (.bl false))) sNil) sNil) (sSeq (sIf (tNotD (eTru (eFun d_law_like (aCons (eFun d_greatest_difference (aCons (eV 1) (aCons (eV 10) aNil))) (aCons (eFun d_law_worst (aCons (eV 1) (aCons (eV 10) aNil))) aNil))))) (sSeq (sRet (eC (.bl false))) sNil) sNil) sNil))
noncomputable def b_law : Env → Rs Out := (sSeq (sSet 1 (eFun d_law_amounts (aCons (eV 0) aNil))) (sSeq (sSet 2 (eFun d_law_copy (aCons (eV 1) aNil))) (sSeq (sSet 3 (eFun d_law_due (aCons (eV 1) aNil))) (sSeq (sSet 4 (eFun d_whole_cents (aCons (eV 1) aNil))) (sSeq (sIf (tOrD (tNotD (eTru (eFun d_law_like (aCons (eV 4) (aCons (eV 3) aNil))))) (tOrD (tNotD (eTru (eFun d_law_like (aCons (eV 1) (aCons (eV 2) aNil))))) (eT (eOp oNe (eTup (aCons (eCall oSum (aCons (eV 3) aNil)) (aCons (eC (.int 1)) aNil))) (eFun d_law_total (aCons (eV 1) aNil)))))) (sSeq (sRet (eC (.bl false))) sNil) sNil) (sSeq (sIf (eT (eOp oGt (eCall oLen (aCons (eLc [5] (iR (aCons (eCall oLen (aCons (eV 3) aNil)) aNil)) (.n 5) (tNotD (eTru (eFun d_law_rounds (aCons (eOp oIx (eV 3) (eV 5)) (aCons (eOp oIx (eV 1) (eV 5)) aNil))))) (eV 5)) aNil)) (eC (.int 0)))) (sSeq (sRet (eC (.bl false))) sNil) sNil) (sSeq (sSet 6 (eFun d_law_worst (aCons (eV 1) (aCons (eV 3) aNil)))) (sSeq (sIf (tNotD (eTru (eFun d_law_like (aCons (eFun d_greatest_difference (aCons (eV 1) (aCons (eV 3) aNil))) (aCons (eV 6) aNil))))) (sSeq (sRet (eC (.bl false))) sNil) sNil) (sSeq (sSet 7 (eFun d_law_draws (aCons (eV 0) (aCons (eC (.int 1)) (aCons (eC (.int 40)) aNil))))) (sSeq (sSet 8 (eLc [5] (iR (aCons (eCall oLen (aCons (eV 3) aNil)) aNil)) (.n 5) tYesD (eOp oSub (eOp oAdd (eOp oIx (eV 3) (eV 5)) (eOp oMod (eOp oIx (eV 7) (eV 5)) (eC (.int 5)))) (eC (.int 2))))) (sSeq (sIf (tNotD (eTru (eFun d_law_like (aCons (eFun d_greatest_difference (aCons (eV 1) (aCons (eV 8) aNil))) (aCons (eFun d_law_worst (aCons (eV 1) (aCons (eV 8) aNil))) aNil))))) (sSeq (sRet (eC (.bl false))) sNil) sNil) (sSeq (sIf (tAndD (eT (eOp oLe (eCall oLen (aCons (eV 1) aNil)) (eC (.int 4)))) (eT (eOp oGt (eCall oLen (aCons (eV 1) aNil)) (eC (.int 1))))) (sSeq (sSet 9 (eSl (eV 1) (pSome (eC (.int 0))) (pSome (eOp oSub (eCall oLen (aCons (eV 1) aNil)) (eC (.int 1)))))) (sSeq (sFor (iE (eFun d_law_near (aCons (eV 9) (aCons (eCall oSum (aCons (eV 3) aNil)) aNil)))) (.n 10) lp1_law) sNil)) sNil) (sSeq (sRet (eAnd (eFun d_law_like (aCons (eFun d_whole_cents (aCons (eV 1) aNil)) (aCons (eV 3) aNil))) (eFun d_law_like (aCons (eV 1) (aCons (eV 2) aNil))))) sNil)))))))))))))
noncomputable def d_law : List PV → Rs PV := runB 0 11 b_law
end Pw.K62

namespace Pw.K62
open PySem L2 Pw
theorem e_total {qs : List Rat} {D M : Nat} (hD : D < 2 ^ 20) (h0 : 0 < D) (hM : M < 2 ^ 120) (hl : qs.length ≤ 40) (h : ∀ q ∈ qs, Gr D M q) : d_law_total [.lst (qs.map fr)] = .ok (fr qs.sum) := by
  have sz1 : ∀ q ∈ qs, Sz 130 q := fun q hq => (h q hq).sz (by omega) (by omega)
  have sz2 : ∀ k, k ≤ qs.length → Sz 130 (qs.take k).sum := fun k hk => by
    refine (Gr.take h0 h k hk).sz ?_ (by omega)
    have : k * M ≤ 40 * M := Nat.mul_le_mul_right _ (by omega)
    omega
  obtain ⟨y, hy⟩ := e_sumG (fb := lp1_law_total) (v := .lst (qs.map fr)) sz2 (fun hb ha => by
    simp [lp1_law_total, e_plus_b ha (sz1 _ hb) (by omega)]) none
  rw [fr_zero] at hy
  simp [d_law_total, b_law_total, hy]
theorem e_sumof {qs : List Rat} {D M : Nat} (hD : D < 2 ^ 20) (h0 : 0 < D) (hM : M < 2 ^ 120) (hl : qs.length ≤ 40) (h : ∀ q ∈ qs, Gr D M q) : d_sum_of [.lst (qs.map fr)] = .ok (fr qs.sum) := by
  have sz1 : ∀ q ∈ qs, Sz 130 q := fun q hq => (h q hq).sz (by omega) (by omega)
  have sz2 : ∀ k, k ≤ qs.length → Sz 130 (qs.take k).sum := fun k hk => by
    refine (Gr.take h0 h k hk).sz ?_ (by omega)
    have : k * M ≤ 40 * M := Nat.mul_le_mul_right _ (by omega)
    omega
  exact e_sum_ofG sz1 sz2 (by omega)
theorem e_floor {q : Rat} {s : Nat} (h : Sz s q) (hs : s < 9000) : d_floor_of [fr q] = .ok (.int q.floor) ∧ d_law_floor [fr q] = .ok (.int q.floor) := by
  have h1 : (q.den : Int).natAbs.log2 < 9000 := by
    rw [Int.natAbs_natCast]
    have := log2_le h.2
    omega
  have h2 := den_pos_int q
  have h3 := q.den_pos
  rw [Int.natAbs_natCast] at h1
  rw [Rat.floor_def]
  constructor
  · simp [d_floor_of, b_floor_of, fr, h1, h3]
  · simp [d_law_floor, b_law_floor, fr, h1, h3]
theorem Gr.rest {D M : Nat} {q : Rat} (h : Gr D M q) : Gr D D (q - (q.floor : Rat)) := by
  obtain ⟨h0, z, hz, _⟩ := h
  have e : (q - (q.floor : Rat)) * (D : Rat) = ((z - q.floor * D : Int) : Rat) := by
    rw [Rat.intCast_sub, Rat.intCast_mul, Rat.intCast_natCast, ← hz]; grind
  have hD : (0 : Rat) < (D : Rat) := by
    have := (Rat.intCast_lt_intCast (a := 0) (b := (D : Int))).mpr (by omega)
    rw [Rat.intCast_natCast] at this; exact this
  have l1 : 0 ≤ q - (q.floor : Rat) := by have := Rat.floor_le q; grind
  have l2 : q - (q.floor : Rat) < 1 := by have := Rat.lt_floor_add_one q; rw [Rat.intCast_add] at this; grind
  have m1 := Rat.mul_le_mul_of_nonneg_right l1 (Rat.le_of_lt hD)
  have m2 := Rat.mul_lt_mul_of_pos_right l2 hD
  rw [e] at m1 m2
  refine ⟨h0, _, e, ?_⟩
  have k1 : 0 ≤ z - q.floor * D := Rat.intCast_le_intCast.mp (by rw [Rat.zero_mul] at m1; exact m1)
  have k2 : z - q.floor * D < D := Rat.intCast_lt_intCast.mp (by rw [Rat.one_mul] at m2; rw [Rat.intCast_natCast]; exact m2)
  omega
def bot (b0 b1 : Nat) (m : Nat) : Nat := if m < 3 then b0 else if m = 3 then b1 else if m = 4 then 12 else 1
theorem e_amounts {ns : List Int} {B : Nat} (hb : ∀ z ∈ ns, z.natAbs < 2 ^ B) (hB : B ≤ 1048576) :
    ∃ (c : Nat) (Q : Nat → Rat) (D : Nat) (n : Int), d_law_amounts [.ro ns] = .ok (.lst (tab c fun k => fr (Q k))) ∧ 1 ≤ c ∧ c ≤ 40 ∧ 0 < D ∧ D < 2 ^ 13 ∧ (∀ k, k < c → Gr D (2 ^ 100) (Q k)) ∧ (tab c Q).sum = (n : Rat) := by
  obtain ⟨p, hp, hr⟩ := e_draws hb hB 0 45
  have hp : Lib.d_law_draws_b [.ro ns, .int 0, .int 45] = _ := hp
  have q0 : ∃ b0 : Nat, 1 ≤ b0 ∧ b0 ≤ 6 ∧ atI [PV.int 2, .int 2, .int 3, .int 4, .int 6] ((p 2 : Int) % 5) = some (.int (b0 : Int)) := by
    rcases (show (p 2 : Int) % 5 = 0 ∨ (p 2 : Int) % 5 = 1 ∨ (p 2 : Int) % 5 = 2 ∨ (p 2 : Int) % 5 = 3 ∨ (p 2 : Int) % 5 = 4 by omega) with h | h | h | h | h <;> rw [h]
    · exact ⟨2, by omega, by omega, rfl⟩
    · exact ⟨2, by omega, by omega, rfl⟩
    · exact ⟨3, by omega, by omega, rfl⟩
    · exact ⟨4, by omega, by omega, rfl⟩
    · exact ⟨6, by omega, by omega, rfl⟩
  obtain ⟨b0, l0, u0, q0⟩ := q0
  have hb1 : ∃ b1 : Nat, 1 ≤ b1 ∧ b1 ≤ 60 ∧ 1 + (p 3 : Int) % 60 = b1 := ⟨1 + p 3 % 60, by omega, by omega, by omega⟩
  obtain ⟨b1, l1, u1, q1⟩ := hb1
  have hD : 0 < b0 * b1 * 12 := by
    have : 0 < b0 * b1 := Nat.mul_pos l0 l1
    omega
  have hD2 : b0 * b1 * 12 < 2 ^ 13 := by
    have : b0 * b1 ≤ 6 * 60 := Nat.mul_le_mul u0 u1
    omega
  -- the bottom of one pick
  have bt : ∀ x : Nat, ∃ m b c : Nat, atI [PV.int 0, .int 0, .int 0, .int 1, .int 2, .int 3] ((x : Int) % 6) = some (.int (m : Int)) ∧ atI [PV.int b0, .int b1, .int 12, .int 1] (m : Int) = some (.int (b : Int)) ∧ b * c = b0 * b1 * 12 ∧ 0 < b ∧ b ≤ 60 ∧ c ≤ 4320 := by
    intro x
    have e0 : b0 * (b1 * 12) = b0 * b1 * 12 := by rw [Nat.mul_assoc]
    have e1 : b1 * (b0 * 12) = b0 * b1 * 12 := by rw [← Nat.mul_assoc, Nat.mul_comm b1 b0]
    have e2 : 12 * (b0 * b1) = b0 * b1 * 12 := Nat.mul_comm _ _
    have m1 : b0 * b1 ≤ 6 * 60 := Nat.mul_le_mul u0 u1
    rcases (show (x : Int) % 6 = 0 ∨ (x : Int) % 6 = 1 ∨ (x : Int) % 6 = 2 ∨ (x : Int) % 6 = 3 ∨ (x : Int) % 6 = 4 ∨ (x : Int) % 6 = 5 by omega) with h | h | h | h | h | h <;> rw [h]
    · exact ⟨0, b0, b1 * 12, rfl, rfl, e0, by omega, by omega, by omega⟩
    · exact ⟨0, b0, b1 * 12, rfl, rfl, e0, by omega, by omega, by omega⟩
    · exact ⟨0, b0, b1 * 12, rfl, rfl, e0, by omega, by omega, by omega⟩
    · exact ⟨1, b1, b0 * 12, rfl, rfl, e1, by omega, by omega, by omega⟩
    · exact ⟨2, 12, b0 * b1, rfl, rfl, e2, by omega, by omega, by omega⟩
    · exact ⟨3, 1, b0 * b1 * 12, rfl, rfl, by omega, by omega, by omega, by omega⟩
  -- one amount
  generalize hT : b0 * b1 * 12 = D at hD hD2 bt
  have step : ∀ k : Nat, ∃ q : Rat, Gr D (2 ^ 99) q ∧ (k ≤ 39 → ∀ (cc : Int) (l : List PV) (x5 x6 x7 x8 : Option PV), l.length ≤ 39 → Nx (fun e => ∃ x6 x7 x8, e = [some (.ro ns), some (.lst (tab 45 fun k => .int (p k : Nat))), some (.int cc), some (.lst [.int b0, .int b1, .int 12, .int 1]), some (.lst (l ++ [fr q])), some (.int k), x6, x7, x8, none])
      (lp1_law_amounts [some (.ro ns), some (.lst (tab 45 fun k => .int (p k : Nat))), some (.int cc), some (.lst [.int b0, .int b1, .int 12, .int 1]), some (.lst l), some (.int k), x6, x7, x8, none])) := by
    intro k
    have hx := hr (5 + k)
    generalize hxe : p (5 + k) = x at hx
    obtain ⟨m, b, cf, hm, hbt, hbc, lb, ub, uc⟩ := bt x
    have m1 : mulOk 7 (b : Int) = true := mulOk_small (by decide) (by omega)
    have m2 : mulOk 2 (b : Int) = true := mulOk_small (by decide) (by omega)
    have m3 : mulOk (x : Int) 100000000000000000000 = true := mulOk_of (s := 20) (t := 70) (by omega) (by decide) (by omega)
    have r1 : 0 ≤ (x : Int) / 6 % (7 * (b : Int)) ∧ (x : Int) / 6 % (7 * (b : Int)) < 7 * b := ⟨Int.emod_nonneg _ (by omega), Int.emod_lt_of_pos _ (by omega)⟩
    generalize ht : (x : Int) / 6 % (7 * (b : Int)) = t at r1
    have gr : ∀ top : Int, top.natAbs < 2 ^ 85 → Gr D (2 ^ 99) (Rat.divInt top (b : Int)) := fun top ht => by
      refine (Gr.divInt (c := cf) (D := D) (by omega) (by rw [← hbc, Int.natCast_mul]) hD).le ?_
      have : top.natAbs * cf ≤ 2 ^ 85 * 4320 := Nat.mul_le_mul (by omega) uc
      omega
    have fq : ∀ top : Int, d_law_frac [.int top, .int b] = .ok (fr (Rat.divInt top (b : Int))) := fun top => e_frac_b (s := 20) (by omega) (by omega) (by omega)
    have hb0 : 0 < 7 * (b : Int) := by omega
    have hi : k ≤ 39 → atI (tab 45 fun k => PV.int (p k : Nat)) (5 + (k : Int)) = some (.int (x : Int)) := fun hk => by
      rw [atI_tab, if_pos (by omega), show (5 + (k : Int)).toNat = 5 + k by omega, hxe]
    by_cases hf : (p 4 : Int) % 7 = 1
    · refine ⟨Rat.divInt (t - 2 * b + x * 100000000000000000000) b, gr _ (by omega), fun hk cc l x5 x6 x7 x8 hl P hP => ?_⟩
      have hl' : l.length < 16777216 := by omega
      have h4 : atI (tab 45 fun k => PV.int (p k : Nat)) 4 = some (.int (p 4 : Int)) := rfl
      simp [lp1_law_amounts, hi hk, hm, hbt, m1, m2, m3, ht, h4, hf, fq, hl', -atI_tab, hb0]
      exact hP _ ⟨_, _, _, rfl⟩
    · refine ⟨Rat.divInt (t - 2 * b) b, gr _ (by omega), fun hk cc l x5 x6 x7 x8 hl P hP => ?_⟩
      have hl' : l.length < 16777216 := by omega
      have h4 : atI (tab 45 fun k => PV.int (p k : Nat)) 4 = some (.int (p 4 : Int)) := rfl
      simp [lp1_law_amounts, hi hk, hm, hbt, m1, m2, m3, ht, h4, hf, fq, hl', -atI_tab, hb0]
      exact hP _ ⟨_, _, _, rfl⟩
  obtain ⟨q, hq⟩ := Classical.axiomOfChoice step
  -- the loop and what follows
  have main : ∀ c : Nat, c ≤ 39 → ∃ (Q : Nat → Rat) (n : Int), (∀ k, k < c + 1 → Gr D (2 ^ 100) (Q k)) ∧ (tab (c + 1) Q).sum = (n : Rat) ∧ ∀ (cc : Int) (P : Out → Prop), P (.rt (.lst (tab (c + 1) fun k => fr (Q k)))) →
      Wp (thn (forL (.n 5) lp1_law_amounts [some (.ro ns), some (.lst (tab 45 fun k => .int (p k : Nat))), some (.int cc), some (.lst [.int b0, .int b1, .int 12, .int 1]), some (.lst []), none, none, none, none, none] (rng 0 (c : Int))) k1_law_amounts) P := by
    intro c hc
    have hg : ∀ y ∈ tab c q, Gr D (2 ^ 99) y := fun y hy => by
      obtain ⟨k, _, rfl⟩ := mem_tab.mp hy
      exact (hq k).1
    have tot := e_total (D := D) (M := 2 ^ 99) (by omega) hD (by omega) (by rw [tab_length]; omega) hg
    rw [tab_map] at tot
    have gs := Gr.take hD hg c (by rw [tab_length]; omega)
    rw [take_tab (Nat.le_refl _)] at gs
    generalize hS : (tab c q).sum = S at tot gs
    have sS : Sz 130 S := gs.sz (by have : c * 2 ^ 99 ≤ 40 * 2 ^ 99 := Nat.mul_le_mul_right _ (by omega)
                                    omega) (by omega)
    have fl := (e_floor sS (by omega)).1
    have fd := Rat.floor_def S
    have d1 := den_pos_int S
    have d2 : (S.den : Int).natAbs.log2 < 9000 := by
      rw [Int.natAbs_natCast]
      have := log2_le sS.2
      omega
    rw [Int.natAbs_natCast] at d2
    have d3 := S.den_pos
    have hX : ∃ X : Int, (p 3 : Int) / 60 % 9 = X ∧ 0 ≤ X ∧ X < 9 := ⟨_, rfl, by omega, by omega⟩
    obtain ⟨X, hX, x1, x2⟩ := hX
    have gl : Gr D (2 ^ 100) (((S.floor + X - 4 : Int) : Rat) - S) := by
      have := ((Gr.int (D := D) hD (X - 4)).sub (Gr.rest gs)).le (N := 2 ^ 100) (by
        have : (X - 4).natAbs * D ≤ 8 * D := Nat.mul_le_mul_right _ (by omega)
        omega)
      have e : ((X - 4 : Int) : Rat) - (S - (S.floor : Rat)) = ((S.floor + X - 4 : Int) : Rat) - S := by
        rw [Rat.intCast_sub, Rat.intCast_sub, Rat.intCast_add]; grind
      rwa [e] at this
    have sn : Sz 135 ((S.floor + X - 4 : Int) : Rat) := Sz.int (by
      have : (S.num / (S.den : Int)).natAbs ≤ S.num.natAbs := Int.natAbs_ediv_le_natAbs _ _
      have := sS.1
      omega) (by omega)
    have mn := e_minus_b sn sS (by omega)
    rw [fr_int, fd] at mn
    have h3 : atI (tab 45 fun k => PV.int (p k : Nat)) 3 = some (.int (p 3 : Int)) := rfl
    refine ⟨fun k => if k = c then ((S.floor + X - 4 : Int) : Rat) - S else q k, S.floor + X - 4, fun k hk => ?_, ?_, fun cc P hP => ?_⟩
    · show Gr D (2 ^ 100) (if k = c then _ else q k)
      by_cases hkc : k = c
      · rw [if_pos hkc]; exact gl
      · rw [if_neg hkc]; exact (hq k).1.le (by omega)
    · rw [sum_tab_succ, if_pos rfl]
      have : tab c (fun k => if k = c then ((S.floor + X - 4 : Int) : Rat) - S else q k) = tab c q := tab_ext fun k hk => by rw [if_neg (by omega)]
      rw [this, hS]; grind
    · refine wp_for (fun k e => ∃ x5 x6 x7 x8, e = [some (.ro ns), some (.lst (tab 45 fun k => .int (p k : Nat))), some (.int cc), some (.lst [.int b0, .int b1, .int 12, .int 1]), some (.lst (tab k fun k => fr (q k))), x5, x6, x7, x8, none]) ⟨_, _, _, _, rfl⟩ ?_ ?_
      · rintro k e hk ⟨x5, x6, x7, x8, rfl⟩ P hP
        refine (hq k).2 (by omega) cc (tab k fun k => fr (q k)) x5 x6 x7 x8 (by rw [tab_length]; omega) P ?_
        rintro e ⟨x6, x7, x8, rfl⟩
        exact hP _ ⟨_, _, _, _, by rw [tab_succ k fun k => fr (q k)]⟩
      · rintro e ⟨x5, x6, x7, x8, rfl⟩
        have hl : c < 16777216 := by omega
        simp [tot, h3, hX, -atI_tab, d2, d3, hl, mn]
        rw [tab_put, ← fd]
        simpa [apply_ite fr] using hP
  by_cases h1 : (p 1 : Int) % 8 = 1
  · obtain ⟨Q, n, m1, m2, m3⟩ := main 39 (by omega)
    refine ⟨40, Q, D, n, wp_run fun P hP => ?_, by omega, by omega, hD, hD2, m1, m2⟩
    have := m3 40 P hP
    simp [b_law_amounts, hp, h1, q0, q1, -k1_law_amounts]
    exact this
  · obtain ⟨Q, n, m1, m2, m3⟩ := main (p 0 % 6) (by omega)
    refine ⟨p 0 % 6 + 1, Q, D, n, wp_run fun P hP => ?_, by omega, by omega, hD, hD2, m1, m2⟩
    have := m3 (1 + (p 0 : Int) % 6) P hP
    have e : 1 + (p 0 : Int) % 6 - 1 = ((p 0 % 6 : Nat) : Int) := by omega
    have l2 : ((p 0 : Int) % 6).natAbs < 4611686018427387904 := by omega
    simp [b_law_amounts, hp, h1, q0, q1, -k1_law_amounts, e, l2]
    simpa [-k1_law_amounts] using this
end Pw.K62

namespace Pw.K62
open PySem L2 Pw
def cnt (p : Nat → Bool) : Nat → Nat
  | 0 => 0
  | n + 1 => cnt p n + if p n = true then 1 else 0
def isum (f : Nat → Int) : Nat → Int
  | 0 => 0
  | n + 1 => isum f n + f n
theorem isum_cast (f : Nat → Int) : ∀ n : Nat, (tab n fun k => ((f k : Int) : Rat)).sum = ((isum f n : Int) : Rat)
  | 0 => by simp [isum]
  | n + 1 => by rw [sum_tab_succ, isum_cast f n, isum, Rat.intCast_add]
theorem sum_sub (f g : Nat → Rat) : ∀ n : Nat, (tab n fun k => f k - g k).sum = (tab n f).sum - (tab n g).sum
  | 0 => by simp [tab]; grind
  | n + 1 => by rw [sum_tab_succ, sum_tab_succ, sum_tab_succ, sum_sub f g n]; grind
structure Am (c : Nat) (Q : Nat → Rat) (D : Nat) (n : Int) : Prop where
  c1 : 1 ≤ c
  c40 : c ≤ 40
  D0 : 0 < D
  D13 : D < 2 ^ 13
  gr : ∀ k, k < c → Gr D (2 ^ 100) (Q k)
  sum : (tab c Q).sum = (n : Rat)
def rest (Q : Nat → Rat) (k : Nat) : Rat := Q k - ((Q k).floor : Rat)
def bef (r : Nat → Rat) (c k : Nat) : Nat := cnt (fun j => decide (r k < r j ∨ (r j = r k ∧ j < k))) c
def due (Q : Nat → Rat) (c : Nat) (L : Int) (k : Nat) : Int := (Q k).floor + if (bef (rest Q) c k : Int) < L then 1 else 0
section
variable {c D : Nat} {Q : Nat → Rat} {n : Int}
theorem Am.sz (h : Am c Q D n) {k : Nat} (hk : k < c) : Sz 101 (Q k) := (h.gr k hk).sz (by omega) (by have := h.D13; omega)
theorem floor_sz {q : Rat} {s : Nat} (h : Sz s q) (h1 : 1 ≤ s) : Sz s ((q.floor : Int) : Rat) := Sz.int (by
  rw [Rat.floor_def]
  exact Nat.lt_of_le_of_lt (Int.natAbs_ediv_le_natAbs _ _) h.1) h1
theorem Am.rest (h : Am c Q D n) {k : Nat} (hk : k < c) : Gr D D (rest Q k) := Gr.rest (h.gr k hk)
theorem Am.rsum (h : Am c Q D n) : (tab c (Pw.K62.rest Q)).sum = ((n - isum (fun k => (Q k).floor) c : Int) : Rat) := by
  show (tab c fun k => Q k - ((Q k).floor : Rat)).sum = _
  rw [sum_sub, h.sum, isum_cast, Rat.intCast_sub]
theorem e_law_floor (h : Am c Q D n) {k : Nat} (hk : k < c) : d_law_floor [fr (Q k)] = .ok (.int (Q k).floor) := (e_floor (h.sz hk) (by omega)).2
theorem rests_sum (h : Am c Q D n) : d_law_total [.lst (tab c fun k => fr (rest Q k))] = .ok (fr ((n - isum (fun k => (Q k).floor) c : Int) : Rat)) := by
  have := e_total (qs := tab c (rest Q)) (D := D) (M := D) (by have := h.D13; omega) h.D0 (by have := h.D13; omega) (by rw [tab_length]; exact h.c40) fun q hq => by
    obtain ⟨k, hk, rfl⟩ := mem_tab.mp hq
    exact h.rest hk
  rw [tab_map, h.rsum] at this
  exact this
theorem e_due (h : Am c Q D n) : d_law_due [.lst (tab c fun k => fr (Q k))] = .ok (.lst (tab c fun k => .int (due Q c (n - isum (fun k => (Q k).floor) c) k))) := by
  have hc := h.c40
  have tot := rests_sum h
  generalize n - isum (fun k => (Q k).floor) c = L at tot ⊢
  have hl : c ≤ 16777216 := by omega
  have hl2 : c < 4611686018427387904 := by omega
  refine wp_run fun P hP => ?_
  simp [b_law_due, hl]
  refine wp_comp (fun k => fr (rest Q k)) (fun k hk => ?_) ?_
  · have m := e_minus_b (h.sz hk) (floor_sz (h.sz hk) (by omega)) (by omega)
    rw [fr_int] at m
    simp [e_law_floor h hk, m]; rfl
  simp [tot, hl2]
  refine wp_for (fun k e => ∃ x5 x6 x7 x8, e = [some (.lst (tab c fun k => fr (Q k))), some (.lst (tab c fun k => fr (rest Q k))), none, some (.int L), some (.lst (tab k fun k => .int (due Q c L k))), x5, x6, x7, x8]) ⟨_, _, _, _, rfl⟩ ?_ ?_
  · rintro k e hk ⟨x5, x6, x7, x8, rfl⟩ P hP
    simp [lp1_law_due, hl2]
    refine wp_for (fun j e => ∃ x7 x8, e = [some (.lst (tab c fun k => fr (Q k))), some (.lst (tab c fun k => fr (rest Q k))), none, some (.int L), some (.lst (tab k fun k => .int (due Q c L k))), some (.int k), some (.int (bef (rest Q) j k : Nat)), x7, x8]) ⟨_, _, rfl⟩ ?_ ?_
    · rintro j e hj ⟨x7, x8, rfl⟩ P hP
      have sj := (h.rest hj).sz (s := 14) (by have := h.D13; omega) (by have := h.D13; omega)
      have sk := (h.rest hk).sz (s := 14) (by have := h.D13; omega) (by have := h.D13; omega)
      obtain ⟨m1, m2, _, _⟩ := sj.mulOk sk (by omega)
      have h1 := Rat.lt_iff (rest Q k) (rest Q j)
      have h2 := Rat.lt_iff (rest Q j) (rest Q k)
      have hb : bef (rest Q) (j + 1) k = bef (rest Q) j k + if rest Q k < rest Q j ∨ (rest Q j = rest Q k ∧ j < k) then 1 else 0 := by simp [bef, cnt]
      rw [hb] at hP
      simp [lp2_law_due, hj, hk, m1, m2]
      generalize (rest Q j).num * ((rest Q k).den : Int) = A at h1 h2 ⊢
      generalize (rest Q k).num * ((rest Q j).den : Int) = B at h1 h2 ⊢
      by_cases c1 : B < A
      · have c1' := h1.mpr c1
        simp only [c1', true_or, if_true] at hP
        simp [c1]
        exact hP _ ⟨_, _, rfl⟩
      · by_cases c2 : A - B = 0
        · have c2' : rest Q j = rest Q k := Rat.le_antisymm (Rat.not_lt.mp fun h => by have := h1.mp h; omega) (Rat.not_lt.mp fun h => by have := h2.mp h; omega)
          rw [c2'] at hP
          have nl : ¬ rest Q k < rest Q k := Rat.lt_irrefl
          by_cases c3 : j < k
          · simp only [c3, nl, and_self, or_true, if_true] at hP
            simp [c1, c2, c3]
            exact hP _ ⟨_, _, rfl⟩
          · simp only [c3, nl, and_false, or_self, if_false] at hP
            simp [c1, c2, c3]
            exact hP _ ⟨_, _, rfl⟩
        · have n1 : ¬ rest Q k < rest Q j := fun h => c1 (h1.mp h)
          have n2 : ¬ rest Q j = rest Q k := fun h => by
            have := h2.mpr (by omega)
            rw [h] at this; exact Rat.lt_irrefl this
          simp only [n1, n2, false_and, or_self, if_false] at hP
          simp [c1, c2]
          exact hP _ ⟨_, _, rfl⟩
    · rintro e ⟨x7, x8, rfl⟩
      have hk2 : k < 16777216 := by omega
      simp [hk, e_law_floor h hk, hk2]
      rw [tab_succ k] at hP
      exact hP _ ⟨_, _, _, _, rfl⟩
  · rintro e ⟨x5, x6, x7, x8, rfl⟩
    simp
    exact hP
end
end Pw.K62

namespace Pw.K62
open PySem L2 Pw
/-- the first greatest place -/
def pl (r : Nat → Rat) : Nat → Nat
  | 0 => 0
  | k + 1 => if r (pl r k) < r k then k else pl r k
theorem pl_spec (r : Nat → Rat) : ∀ k : Nat, (0 < k → pl r k < k) ∧ (∀ j, j < k → r j ≤ r (pl r k)) ∧ ∀ j, j < pl r k → r j < r (pl r k)
  | 0 => ⟨fun h => absurd h (Nat.lt_irrefl _), fun j h => absurd h (Nat.not_lt_zero _), fun j h => absurd h (Nat.not_lt_zero _)⟩
  | k + 1 => by
    obtain ⟨h1, h2, h3⟩ := pl_spec r k
    unfold pl
    by_cases h : r (pl r k) < r k
    · rw [if_pos h]
      have lt : ∀ j, j < k → r j < r k := fun j hj => by have := h2 j hj; grind
      refine ⟨fun _ => by omega, fun j hj => ?_, lt⟩
      rcases Nat.lt_succ_iff_lt_or_eq.mp hj with hj | hj
      · exact Rat.le_of_lt (lt j hj)
      · subst hj; exact Rat.le_refl
    · rw [if_neg h]
      refine ⟨fun _ => ?_, fun j hj => ?_, h3⟩
      · by_cases hk : k = 0
        · subst hk; exact Nat.zero_lt_one
        · have := h1 (by omega); omega
      · rcases Nat.lt_succ_iff_lt_or_eq.mp hj with hj | hj
        · exact h2 j hj
        · subst hj; exact Rat.not_lt.mp h
theorem e_place {c : Nat} {r : Nat → Rat} (hc : 1 ≤ c) (hs : ∀ k, k < c → Sz 14 (r k)) : d_place_of_greatest [.lst (tab c fun k => fr (r k))] = .ok (.int (pl r c : Nat)) := by
  refine wp_run fun P hP => ?_
  simp [b_place_of_greatest, enm_tab]
  refine wp_forTg (fun k e => ∃ x2 x3, e = [some (.lst (tab c fun k => fr (r k))), some (.int (pl r k : Nat)), x2, x3]) ⟨_, _, rfl⟩ ?_ ?_
  · rintro k e hk ⟨x2, x3, rfl⟩
    refine ⟨_, rfl, fun P hP => ?_⟩
    have hp : pl r k < c := by
      by_cases h : k = 0
      · subst h; show 0 < c; omega
      · have := (pl_spec r k).1 (by omega); omega
    have l := e_is_less (hs (pl r k) hp) (hs k hk) (by omega)
    simp [lp1_place_of_greatest, hp, l]
    have hu : pl r (k + 1) = if r (pl r k) < r k then k else pl r k := rfl
    rw [hu] at hP
    by_cases h : r (pl r k) < r k
    · rw [if_pos h] at hP
      simp [h]
      exact hP _ ⟨_, _, rfl⟩
    · rw [if_neg h] at hP
      simp [h]
      exact hP _ ⟨_, _, rfl⟩
  · rintro e ⟨x2, x3, rfl⟩
    simp
    exact hP
end Pw.K62

namespace Pw.K62
open PySem L2 Pw
/-! ### counting -/
theorem cnt_succ (p : Nat → Bool) (n : Nat) : cnt p (n + 1) = cnt p n + if p n = true then 1 else 0 := rfl
theorem isum_succ (f : Nat → Int) (n : Nat) : isum f (n + 1) = isum f n + f n := rfl
theorem lt_tri (a b : Rat) : a < b ∨ a = b ∨ b < a := by
  by_cases h : a < b
  · exact .inl h
  · by_cases h2 : b < a
    · exact .inr (.inr h2)
    · exact .inr (.inl (Rat.le_antisymm (Rat.not_lt.mp h2) (Rat.not_lt.mp h)))
theorem cnt_le {p q : Nat → Bool} : ∀ {c : Nat}, (∀ j, j < c → p j = true → q j = true) → cnt p c ≤ cnt q c
  | 0, _ => Nat.le_refl _
  | c + 1, h => by
    have ih := cnt_le (c := c) fun j hj => h j (by omega)
    have := h c (by omega)
    unfold cnt
    cases hp : p c <;> cases hq : q c <;> simp_all <;> omega
theorem cnt_lt {p q : Nat → Bool} : ∀ {c k : Nat}, k < c → (∀ j, j < c → p j = true → q j = true) → p k = false → q k = true → cnt p c < cnt q c
  | 0, _, hk, _, _, _ => absurd hk (Nat.not_lt_zero _)
  | c + 1, k, hk, h, h1, h2 => by
    have hc := h c (by omega)
    unfold cnt
    by_cases e : k = c
    · subst e
      have := cnt_le (c := k) fun j hj => h j (by omega)
      rw [h1, h2]; simp; omega
    · have ih := cnt_lt (c := c) (k := k) (by omega) (fun j hj => h j (by omega)) h1 h2
      cases hp : p c <;> cases hq : q c <;> simp_all <;> omega
theorem cnt_put {S : Nat → Bool} {k : Nat} : ∀ {c : Nat}, k < c → S k = false → cnt (fun j => if j = k then true else S j) c = cnt S c + 1
  | 0, hk, _ => absurd hk (Nat.not_lt_zero _)
  | c + 1, hk, h => by
    unfold cnt
    by_cases e : k = c
    · subst e
      have : ∀ c, c ≤ k → cnt (fun j => if j = k then true else S j) c = cnt S c := fun c => by
        induction c with
        | zero => intro _; rfl
        | succ c ih => intro hc; unfold cnt; rw [ih (by omega), if_neg (by omega : ¬ c = k)]
      rw [this k (Nat.le_refl _), h]; simp
    · rw [cnt_put (by omega) h, if_neg (by omega : ¬ c = k)]; omega
theorem cnt_cut {S : Nat → Bool} {k c : Nat} (hk : k < c) (h : S k = true) : cnt S c = cnt (fun j => if j = k then false else S j) c + 1 := by
  rw [← cnt_put (S := fun j => if j = k then false else S j) hk (by simp)]
  congr 1
  funext j
  by_cases e : j = k
  · subst e; simp [h]
  · simp [e]
theorem cnt_no {S : Nat → Bool} (h : ∀ j, S j = false) : ∀ c : Nat, cnt S c = 0
  | 0 => rfl
  | c + 1 => by unfold cnt; rw [cnt_no h c, h c]; rfl
theorem cnt_free {S : Nat → Bool} : ∀ {c : Nat}, cnt S c < c → ∃ j, j < c ∧ S j = false
  | 0, h => absurd h (Nat.not_lt_zero _)
  | c + 1, h => by
    unfold cnt at h
    cases e : S c with
    | false => exact ⟨c, by omega, e⟩
    | true =>
      rw [e] at h
      obtain ⟨j, h1, h2⟩ := cnt_free (c := c) (by simp at h; omega)
      exact ⟨j, by omega, h2⟩
/-! ### sums -/
theorem sum_le {f g : Nat → Rat} : ∀ {c : Nat}, (∀ j, j < c → f j ≤ g j) → (tab c f).sum ≤ (tab c g).sum
  | 0, _ => Rat.le_refl
  | c + 1, h => by
    rw [sum_tab_succ, sum_tab_succ]
    have a := sum_le (c := c) fun j hj => h j (by omega)
    have b := h c (by omega)
    grind
theorem sum_lt {f g : Nat → Rat} {c : Nat} (hc : 1 ≤ c) (h : ∀ j, j < c → f j < g j) : (tab c f).sum < (tab c g).sum := by
  obtain ⟨d, rfl⟩ : ∃ d, c = d + 1 := ⟨c - 1, by omega⟩
  rw [sum_tab_succ, sum_tab_succ]
  have a := sum_le (c := d) fun j hj => Rat.le_of_lt (h j (by omega))
  have b := h d (by omega)
  grind
theorem sum_ind (S : Nat → Bool) : ∀ c : Nat, (tab c fun k => if S k = true then (1 : Rat) else 0).sum = ((cnt S c : Int) : Rat)
  | 0 => rfl
  | c + 1 => by
    rw [sum_tab_succ, sum_ind S c, cnt_succ]
    cases S c
    · simp; grind
    · simp [Rat.natCast_add]
theorem isum_le {f g : Nat → Int} : ∀ {c : Nat}, (∀ j, j < c → f j ≤ g j) → isum f c ≤ isum g c
  | 0, _ => Int.le_refl _
  | c + 1, h => by
    have a := isum_le (c := c) fun j hj => h j (by omega)
    have b := h c (by omega)
    unfold isum; omega
theorem isum_ind (S : Nat → Bool) : ∀ c : Nat, isum (fun k => if S k = true then 1 else 0) c = (cnt S c : Int)
  | 0 => rfl
  | c + 1 => by
    rw [isum_succ, cnt_succ, isum_ind S c]
    cases S c <;> simp
theorem isum_add (f g : Nat → Int) : ∀ c : Nat, isum (fun k => f k + g k) c = isum f c + isum g c
  | 0 => rfl
  | c + 1 => by rw [isum_succ, isum_succ, isum_succ, isum_add f g c]; omega
/-! ### the ranking -/
def bt (r : Nat → Rat) (a b : Nat) : Prop := r b < r a ∨ (r a = r b ∧ a < b)
def Up (r : Nat → Rat) (c : Nat) (S : Nat → Bool) : Prop := ∀ j j', j < c → j' < c → S j = true → bt r j' j → S j' = true
theorem bt_tri (r : Nat → Rat) {a b : Nat} (h : a ≠ b) : bt r a b ∨ bt r b a := by
  unfold bt
  rcases lt_tri (r a) (r b) with h1 | h1 | h1
  · exact .inr (.inl h1)
  · rcases Nat.lt_or_gt_of_ne h with h2 | h2
    · exact .inl (.inr ⟨h1, h2⟩)
    · exact .inr (.inr ⟨h1.symm, h2⟩)
  · exact .inl (.inl h1)
theorem up_bef {r : Nat → Rat} {c : Nat} {S : Nat → Bool} (h : Up r c S) {k : Nat} (hk : k < c) : S k = true ↔ bef r c k < cnt S c := by
  constructor
  · intro hs
    refine cnt_lt hk (fun j hj hb => h k j hk hj hs (of_decide_eq_true (p := r k < r j ∨ (r j = r k ∧ j < k)) hb)) ?_ hs
    exact decide_eq_false fun hb => by
      rcases hb with hb | hb
      · exact Rat.lt_irrefl hb
      · exact Nat.lt_irrefl _ hb.2
  · intro hl
    cases e : S k with
    | true => rfl
    | false =>
      exfalso
      have : cnt S c ≤ bef r c k := cnt_le fun j hj hs => by
        have hne : j ≠ k := fun hh => by subst hh; rw [e] at hs; cases hs
        rcases bt_tri r hne with hb | hb
        · exact (decide_eq_true_iff (p := r k < r j ∨ (r j = r k ∧ j < k))).mpr hb
        · have := h j k hj hk hs hb
          rw [e] at this; cases this
      omega
section
variable {c D : Nat} {Q : Nat → Rat} {n : Int}
theorem rest_01 (Q : Nat → Rat) (k : Nat) : 0 ≤ rest Q k ∧ rest Q k < 1 := by
  unfold rest
  have a := Rat.floor_le (Q k)
  have b := Rat.lt_floor_add_one (Q k)
  rw [Rat.intCast_add] at b
  constructor <;> grind
theorem Am.lack (h : Am c Q D n) : ∃ L : Nat, n - isum (fun k => (Q k).floor) c = (L : Int) ∧ L < c ∧ (tab c (Pw.K62.rest Q)).sum = ((L : Int) : Rat) := by
  have e := h.rsum
  have a : (tab c fun _ => (0 : Rat)).sum ≤ (tab c (Pw.K62.rest Q)).sum := sum_le fun j _ => (rest_01 Q j).1
  have b : (tab c (Pw.K62.rest Q)).sum < (tab c fun _ => (1 : Rat)).sum := sum_lt h.c1 fun j _ => (rest_01 Q j).2
  have z : ∀ c : Nat, (tab c fun _ => (0 : Rat)).sum = ((0 : Int) : Rat) := fun c => by
    have := sum_ind (fun _ => false) c
    simp at this
    rw [this, cnt_no (fun _ => rfl)]; simp
  have o : ∀ c : Nat, (tab c fun _ => (1 : Rat)).sum = ((c : Int) : Rat) := fun c => by
    have := sum_ind (fun _ => true) c
    simp at this
    rw [this]
    have : ∀ c : Nat, cnt (fun _ => true) c = c := fun c => by
      induction c with
      | zero => rfl
      | succ c ih => unfold cnt; rw [ih]; rfl
    rw [this]
  rw [z, e] at a
  rw [o, e] at b
  have a := Rat.intCast_le_intCast.mp a
  have b := Rat.intCast_lt_intCast.mp b
  refine ⟨(n - isum (fun k => (Q k).floor) c).toNat, by omega, by omega, ?_⟩
  rw [e, Int.toNat_of_nonneg (by omega)]
end
end Pw.K62

namespace Pw.K62
open PySem L2 Pw
section
variable {c D : Nat} {Q : Nat → Rat} {n : Int}
theorem Am.rsz (h : Am c Q D n) {k : Nat} (hk : k < c) : Sz 14 (Pw.K62.rest Q k) := (h.rest hk).sz (by have := h.D13; omega) (by have := h.D13; omega)
theorem e_sumr (h : Am c Q D n) : d_sum_of [.lst (tab c fun k => fr (rest Q k))] = .ok (fr ((n - isum (fun k => (Q k).floor) c : Int) : Rat)) := by
  have := e_sumof (qs := tab c (rest Q)) (D := D) (M := D) (by have := h.D13; omega) h.D0 (by have := h.D13; omega) (by rw [tab_length]; exact h.c40) fun q hq => by
    obtain ⟨k, hk, rfl⟩ := mem_tab.mp hq
    exact h.rest hk
  rw [tab_map, h.rsum] at this
  exact this
/-- one more is picked -/
theorem pick {S : Nat → Bool} (h : Am c Q D n) (hu : Up (rest Q) c S) (hl : cnt S c < c) :
    ∃ p, pl (fun k => if S k = true then (-1 : Rat) else rest Q k) c = p ∧ p < c ∧ S p = false ∧ Up (rest Q) c (fun j => if j = p then true else S j) := by
  have sp := pl_spec (fun k => if S k = true then (-1 : Rat) else rest Q k) c
  refine ⟨_, rfl, ?_⟩
  generalize pl (fun k => if S k = true then (-1 : Rat) else rest Q k) c = p at sp
  obtain ⟨s1, s2, s3⟩ := sp
  have hp := s1 (by have := h.c1; omega)
  obtain ⟨j0, hj0, e0⟩ := cnt_free hl
  have m1 : (-1 : Rat) < 0 := by decide
  have hS : S p = false := by
    cases e : S p with
    | false => rfl
    | true =>
      have := s2 j0 hj0
      simp only [e0, e, if_true] at this
      have := (rest_01 Q j0).1
      simp at *
      grind
  refine ⟨hp, hS, fun j j' hj hj' hs hb => ?_⟩
  by_cases e : j' = p
  · simp [e]
  simp only [if_neg e]
  by_cases ej : j = p
  · subst ej
    cases e' : S j' with
    | true => rfl
    | false =>
      exfalso
      have g := s2 j' hj'
      simp only [e', hS] at g
      simp at g
      rcases hb with hb | hb
      · grind
      · have := s3 j' hb.2
        simp only [e', hS] at this
        simp at this
        rw [hb.1] at this
        exact Rat.lt_irrefl this
  · simp only [if_neg ej] at hs
    exact hu j j' hj hj' hs hb
theorem e_whole_cents (h : Am c Q D n) : d_whole_cents [.lst (tab c fun k => fr (Q k))] = .ok (.lst (tab c fun k => .int (due Q c (n - isum (fun k => (Q k).floor) c) k))) := by
  have hc := h.c40
  have tot := e_sumr h
  obtain ⟨L, eL, lL, sL⟩ := h.lack
  rw [eL] at tot ⊢
  have hl : c ≤ 16777216 := by omega
  have hl2 : L < 4611686018427387904 := by omega
  refine wp_run fun P hP => ?_
  simp [b_whole_cents, hl]
  refine wp_comp (fun k => .int (Q k).floor) (fun k hk => ?_) ?_
  · simp [(e_floor (h.sz hk) (by omega)).1]
  simp [hl]
  refine wp_comp (fun k => fr (rest Q k)) (fun k hk => ?_) ?_
  · have m := e_minus (h.sz hk) (floor_sz (h.sz hk) (by omega)) (by omega)
    simp [d_rest_of, b_rest_of, (e_floor (h.sz hk) (by omega)).1, e_whole, m]; rfl
  simp [tot, hl2]
  refine wp_for (fun t e => ∃ (S : Nat → Bool) (x5 x6 : Option PV), Up (rest Q) c S ∧ cnt S c = t ∧ e = [some (.lst (tab c fun k => fr (Q k))), some (.lst (tab c fun k => .int ((Q k).floor + if S k = true then 1 else 0))), none, some (.lst (tab c fun k => fr (if S k = true then (-1 : Rat) else rest Q k))), some (.int L), x5, x6])
    ⟨fun _ => false, none, none, fun _ _ _ _ h _ => h, cnt_no (fun _ => rfl) c, by simp⟩ ?_ ?_
  · rintro t e ht ⟨S, x5, x6, hu, ct, rfl⟩ P hP
    obtain ⟨p, ep, hp, hS, hu2⟩ := pick h hu (by omega)
    have pp := e_place (r := fun k => if S k = true then (-1 : Rat) else rest Q k) h.c1 fun k hk => by
      show Sz 14 (if S k = true then (-1 : Rat) else rest Q k)
      split
      · exact Sz.int (n := -1) (by decide) (by omega)
      · exact h.rsz hk
    rw [ep] at pp
    have ew : d_whole [.int (-1)] = .ok (fr (-1)) := e_whole (-1)
    simp [lp1_whole_cents, pp, hp, ew, hS]
    have f1 : (tab c fun k => PV.int ((Q k).floor + if S k = true then 1 else 0)).set p (PV.int ((Q p).floor + 1)) = tab c fun k => .int ((Q k).floor + if (if k = p then true else S k) = true then 1 else 0) := by
      rw [tab_set]
      exact tab_ext fun k hk => by
        by_cases e : k = p
        · subst e; simp
        · simp [e]
    have f2 : (tab c fun k => fr (if S k = true then (-1 : Rat) else rest Q k)).set p (fr (-1)) = tab c fun k => fr (if (if k = p then true else S k) = true then (-1 : Rat) else rest Q k) := by
      rw [tab_set]
      exact tab_ext fun k hk => by
        by_cases e : k = p
        · subst e; simp
        · simp [e]
    rw [f1, f2]
    exact hP _ ⟨fun j => if j = p then true else S j, _, _, hu2, by rw [cnt_put hp hS, ct], rfl⟩
  · rintro e ⟨S, x5, x6, hu, ct, rfl⟩
    simp
    have : (tab c fun k => PV.int ((Q k).floor + if S k = true then 1 else 0)) = tab c fun k => .int (due Q c L k) := tab_ext fun k hk => by
      have := up_bef hu hk
      rw [ct] at this
      unfold due
      by_cases hs : S k = true
      · rw [if_pos hs, if_pos (by have := this.mp hs; omega)]
      · rw [if_neg hs, if_neg (fun hb => hs (this.mpr (by omega)))]
    rw [this]; exact hP
end
end Pw.K62

namespace Pw.K62
open PySem L2 Pw
def ab (q : Rat) : Rat := if q < 0 then -q else q
theorem ab_num (q : Rat) : (ab q).num = if q.num < 0 then -q.num else q.num := by
  have h := Rat.num_nonneg (q := q)
  unfold ab
  by_cases hq : q < 0
  · have : q.num < 0 := by
      by_cases h2 : q.num < 0
      · exact h2
      · have := h.mp (by omega)
        grind
    rw [if_pos hq, if_pos this, Rat.neg_num]
  · have : ¬ q.num < 0 := by
      have := h.mpr (Rat.not_lt.mp hq)
      omega
    rw [if_neg hq, if_neg this]
theorem ab_den (q : Rat) : (ab q).den = q.den := by
  unfold ab
  split
  · exact Rat.neg_den q
  · rfl
theorem ab_sz {q : Rat} {s : Nat} (h : Sz s q) : Sz s (ab q) := by
  refine ⟨?_, by rw [ab_den]; exact h.2⟩
  rw [ab_num]
  have := h.1
  split <;> omega
theorem fr_ab (q : Rat) : fr (ab q) = .tup [.int (if q.num < 0 then -q.num else q.num), .int q.den] := by
  unfold fr
  rw [ab_num, ab_den]
section
variable {c D : Nat} {Q : Nat → Rat} {n : Int}
def wo (Q : Nat → Rat) (x : Nat → Int) : Nat → Rat
  | 0 => 0
  | k + 1 => max (wo Q x k) (ab (Q k - (x k : Rat)))
theorem sz_max {a b : Rat} {s : Nat} (ha : Sz s a) (hb : Sz s b) : Sz s (max a b) := by
  rw [Rat.max_def]; split
  · exact hb
  · exact ha
theorem away_sz (h : Am c Q D n) {x : Nat → Int} (hx : ∀ k, k < c → (x k).natAbs < 2 ^ 106) {k : Nat} (hk : k < c) : Sz 106 ((x k : Int) : Rat) ∧ Sz 208 (Q k - (x k : Rat)) := by
  have a : Sz 106 ((x k : Int) : Rat) := Sz.int (hx k hk) (by omega)
  exact ⟨a, (h.sz hk).sub a⟩
theorem wo_sz (h : Am c Q D n) {x : Nat → Int} (hx : ∀ k, k < c → (x k).natAbs < 2 ^ 106) : ∀ {k : Nat}, k ≤ c → Sz 208 (wo Q x k)
  | 0, _ => by show Sz 208 ((0 : Int) : Rat); exact Sz.int (by decide) (by omega)
  | k + 1, hk => sz_max (wo_sz h hx (by omega)) (ab_sz (away_sz h hx (by omega)).2)
theorem e_worst (h : Am c Q D n) {x : Nat → Int} (hx : ∀ k, k < c → (x k).natAbs < 2 ^ 106) : d_law_worst [.lst (tab c fun k => fr (Q k)), .lst (tab c fun k => .int (x k))] = .ok (fr (wo Q x c)) := by
  have hc := h.c40
  have hl2 : c < 4611686018427387904 := by omega
  refine wp_run fun P hP => ?_
  simp [b_law_worst, hl2]
  refine wp_for (fun k e => ∃ x3 x4, e = [some (.lst (tab c fun k => fr (Q k))), some (.lst (tab c fun k => .int (x k))), some (fr (wo Q x k)), x3, x4]) ⟨_, _, rfl⟩ ?_ ?_
  · rintro k e hk ⟨x3, x4, rfl⟩ P hP
    obtain ⟨s1, s2⟩ := away_sz h hx hk
    have m := e_minus_b (h.sz hk) s1 (by omega)
    rw [fr_int] at m
    have sw := wo_sz h hx (Nat.le_of_lt hk)
    have sa := ab_sz s2
    obtain ⟨m1, m2, _, _⟩ := sa.mulOk sw (by omega)
    have l := Rat.lt_iff (wo Q x k) (ab (Q k - (x k : Rat)))
    have hu : wo Q x (k + 1) = if wo Q x k < ab (Q k - (x k : Rat)) then ab (Q k - (x k : Rat)) else wo Q x k := by
      show max _ _ = _
      rw [Rat.max_def]
      by_cases h1 : wo Q x k < ab (Q k - (x k : Rat))
      · rw [if_pos h1, if_pos (Rat.le_of_lt h1)]
      · rw [if_neg h1]
        by_cases h2 : wo Q x k ≤ ab (Q k - (x k : Rat))
        · rw [if_pos h2]; exact Rat.le_antisymm (Rat.not_lt.mp h1) h2
        · rw [if_neg h2]
    rw [hu] at hP
    have fa := fr_ab (Q k - (x k : Rat))
    simp only [ab_num, ab_den] at m1 m2 l
    by_cases h1 : wo Q x k < ab (Q k - (x k : Rat))
    · rw [if_pos h1, fa] at hP
      have l1 := l.mp h1
      simp [lp1_law_worst, hk, m, m1, m2, l1]
      exact hP _ ⟨_, _, rfl⟩
    · rw [if_neg h1] at hP
      have l1 := fun hh => h1 (l.mpr hh)
      simp only [imp_false] at l1
      simp [lp1_law_worst, hk, m, m1, m2, l1]
      exact hP _ ⟨_, _, rfl⟩
  · rintro e ⟨x3, x4, rfl⟩
    simp
    exact hP
theorem e_difference (h : Am c Q D n) {x : Nat → Int} (hx : ∀ k, k < c → (x k).natAbs < 2 ^ 106) {k : Nat} (hk : k < c) : d_difference [fr (Q k), fr ((x k : Int) : Rat)] = .ok (fr (ab (Q k - (x k : Rat)))) := by
  obtain ⟨s1, s2⟩ := away_sz h hx hk
  have l := e_is_less (h.sz hk) s1 (by omega)
  have m1 := e_minus (h.sz hk) s1 (by omega)
  have m2 := e_minus s1 (h.sz hk) (by omega)
  refine wp_run fun P hP => ?_
  unfold ab at hP
  by_cases h1 : Q k < (x k : Rat)
  · rw [if_pos (by grind)] at hP
    simp [b_difference, l, h1, m2]
    have e : -(Q k - (x k : Rat)) = (x k : Rat) - Q k := by grind
    rw [e] at hP
    exact hP
  · rw [if_neg (by grind)] at hP
    simp [b_difference, l, h1, m1]
    exact hP
theorem e_gdiff (h : Am c Q D n) {x : Nat → Int} (hx : ∀ k, k < c → (x k).natAbs < 2 ^ 106) : d_greatest_difference [.lst (tab c fun k => fr (Q k)), .lst (tab c fun k => .int (x k))] = .ok (fr (wo Q x c)) := by
  have hc := h.c40
  refine wp_run fun P hP => ?_
  simp [b_greatest_difference, zp_tab]
  refine wp_forTg (fun k e => ∃ x3 x4, e = [some (.lst (tab c fun k => fr (Q k))), some (.lst (tab c fun k => .int (x k))), some (fr (wo Q x k)), x3, x4]) ⟨_, _, rfl⟩ ?_ ?_
  · rintro k e hk ⟨x3, x4, rfl⟩
    refine ⟨_, rfl, fun P hP => ?_⟩
    obtain ⟨s1, s2⟩ := away_sz h hx hk
    have g := e_greater (wo_sz h hx (Nat.le_of_lt hk)) (ab_sz s2) (by omega)
    simp [lp1_greatest_difference, e_whole, e_difference h hx hk, g]
    exact hP _ ⟨_, _, rfl⟩
  · rintro e ⟨x3, x4, rfl⟩
    simp
    exact hP
/-! ### what is due, is near -/
theorem due_bound (h : Am c Q D n) {L : Int} {k : Nat} (hk : k < c) : (due Q c L k).natAbs < 2 ^ 102 := by
  have : ((Q k).floor).natAbs < 2 ^ 101 := by
    rw [Rat.floor_def]
    exact Nat.lt_of_le_of_lt (Int.natAbs_ediv_le_natAbs _ _) (h.sz hk).1
  unfold due
  split <;> omega
/-- the picked ones: `L` of them, an upper set -/
theorem due_set (h : Am c Q D n) : ∃ (L : Nat) (S : Nat → Bool), n - isum (fun k => (Q k).floor) c = (L : Int) ∧ (tab c (Pw.K62.rest Q)).sum = ((L : Int) : Rat) ∧ cnt S c = L ∧ Up (Pw.K62.rest Q) c S ∧ ∀ k, due Q c L k = (Q k).floor + if S k = true then 1 else 0 := by
  obtain ⟨L, h1, h2, h3⟩ := h.lack
  have ex : ∀ t : Nat, t ≤ L → ∃ S : Nat → Bool, Up (Pw.K62.rest Q) c S ∧ cnt S c = t := fun t => by
    induction t with
    | zero => exact fun _ => ⟨fun _ => false, fun _ _ _ _ h _ => h, cnt_no (fun _ => rfl) c⟩
    | succ t ih =>
      intro ht
      obtain ⟨S, hu, ct⟩ := ih (by omega)
      obtain ⟨p, _, hp, hS, hu2⟩ := pick h hu (by omega)
      exact ⟨_, hu2, by rw [cnt_put hp hS, ct]⟩
  obtain ⟨S, hu, ct⟩ := ex L (Nat.le_refl _)
  refine ⟨L, fun k => decide (bef (Pw.K62.rest Q) c k < L), h1, h3, ?_, ?_, fun k => ?_⟩
  · rw [← ct]
    refine Nat.le_antisymm (cnt_le fun j hj hs => ?_) (cnt_le fun j hj hs => ?_)
    · exact (up_bef hu hj).mpr (of_decide_eq_true hs)
    · exact decide_eq_true ((up_bef hu hj).mp hs)
  · intro j j' hj hj' hs hb
    rw [← ct] at hs ⊢
    exact decide_eq_true ((up_bef hu hj').mp (hu j j' hj hj' ((up_bef hu hj).mpr (of_decide_eq_true hs)) hb))
  · unfold due
    by_cases hb : bef (Pw.K62.rest Q) c k < L
    · rw [if_pos (by omega), if_pos (by simp [hb])]
    · rw [if_neg (by omega), if_neg (by simp [hb])]
end
end Pw.K62

namespace Pw.K62
open PySem L2 Pw
section
variable {c D L : Nat} {Q : Nat → Rat} {n : Int} {S : Nat → Bool}
theorem int_lt_one {z : Int} (h : (z : Rat) < 1) : z ≤ 0 := by
  have := Rat.intCast_lt_intCast (a := z) (b := 1)
  have := this.mp h
  omega
theorem int_lt_two {z : Int} (h : (z : Rat) < 2) : z ≤ 1 := by
  have := (Rat.intCast_lt_intCast (a := z) (b := 2)).mp h
  omega
theorem int_gt_zero {z : Int} (h : 0 < (z : Rat)) : 1 ≤ z := by
  have := (Rat.intCast_lt_intCast (a := 0) (b := z)).mp h
  omega
theorem int_gt_neg {z : Int} (h : -1 < (z : Rat)) : 0 ≤ z := by
  have := (Rat.intCast_lt_intCast (a := -1) (b := z)).mp h
  omega
/-- no rest outside is greater than one inside -/
theorem Up.le {r : Nat → Rat} (hu : Up r c S) {j k : Nat} (hj : j < c) (hk : k < c) (h1 : S j = false) (h2 : S k = true) : r j ≤ r k := by
  by_cases h : r k < r j
  · have := hu k j hk hj h2 (.inl h)
    rw [h1] at this; cases this
  · exact Rat.not_lt.mp h
theorem picked_pos (hs : (tab c (rest Q)).sum = ((L : Int) : Rat)) (hc : cnt S c = L) (hu : Up (rest Q) c S) {k : Nat} (hk : k < c) (h : S k = true) : 0 < rest Q k := by
  by_cases h0 : 0 < rest Q k
  · exact h0
  exfalso
  have r0 : rest Q k = 0 := Rat.le_antisymm (Rat.not_lt.mp h0) (rest_01 Q k).1
  have a : (tab c (rest Q)).sum ≤ (tab c fun j => if (if j = k then false else S j) = true then (1 : Rat) else 0).sum := sum_le fun j hj => by
    by_cases e : j = k
    · subst e; rw [r0]; simp
    · simp only [if_neg e]
      cases hS : S j with
      | true => simp; exact Rat.le_of_lt (rest_01 Q j).2
      | false =>
        have := hu.le hj hk hS h
        rw [r0] at this; simpa using this
  rw [sum_ind, hs] at a
  have a := Rat.intCast_le_intCast.mp a
  have := cnt_cut hk h
  omega
theorem e_rounds (h : Am c Q D n) {x : Int} {k : Nat} (hk : k < c) (hx : x.natAbs < 2 ^ 106) (h1 : (x : Rat) < Q k + 1) (h2 : Q k < (x : Rat) + 1) : d_law_rounds [.int x, fr (Q k)] = .ok (.bl true) := by
  have sq := h.sz hk
  have m : mulOk x ((Q k).den : Int) = true := mulOk_of hx (by rw [Int.natAbs_natCast]; exact sq.2) (by omega)
  have a := (Rat.lt_iff ((x - 1 : Int) : Rat) (Q k)).mp (by rw [Rat.intCast_sub]; grind)
  have b := (Rat.lt_iff (Q k) ((x + 1 : Int) : Rat)).mp (by rw [Rat.intCast_add]; grind)
  have a : (x - 1) * ((Q k).den : Int) < (Q k).num * 1 := a
  have b : (Q k).num * 1 < (x + 1) * ((Q k).den : Int) := b
  rw [Int.sub_mul] at a
  rw [Int.add_mul] at b
  have l1 : x * ((Q k).den : Int) < (Q k).num + ((Q k).den : Int) := by omega
  have l2 : (Q k).num - ((Q k).den : Int) < x * ((Q k).den : Int) := by omega
  simp [d_law_rounds, b_law_rounds, m, l1, l2]
theorem due_rounds (h : Am c Q D n) (hs : (tab c (rest Q)).sum = ((L : Int) : Rat)) (hc : cnt S c = L) (hu : Up (rest Q) c S) (hd : ∀ k, due Q c L k = (Q k).floor + if S k = true then 1 else 0) {k : Nat} (hk : k < c) : d_law_rounds [.int (due Q c L k), fr (Q k)] = .ok (.bl true) := by
  have r := rest_01 Q k
  unfold rest at r
  refine e_rounds h hk (Nat.lt_trans (due_bound h hk) (by omega)) ?_ ?_
  · rw [hd]
    cases e : S k with
    | false => simp; grind
    | true =>
      have p := picked_pos hs hc hu hk e
      unfold rest at p
      simp [Rat.intCast_add]; grind
  · rw [hd]
    cases e : S k with
    | false => simp; grind
    | true => simp [Rat.intCast_add]; grind
theorem le_max_l (a b : Rat) : a ≤ max a b := by rw [Rat.max_def]; split <;> grind
theorem le_max_r (a b : Rat) : b ≤ max a b := by rw [Rat.max_def]; split <;> grind
theorem wo_ge {x : Nat → Int} : ∀ {k j : Nat}, j < k → ab (Q j - (x j : Rat)) ≤ wo Q x k
  | 0, _, h => absurd h (Nat.not_lt_zero _)
  | k + 1, j, h => by
    show _ ≤ max _ _
    by_cases e : j = k
    · subst e; exact le_max_r _ _
    · exact Rat.le_trans (wo_ge (by omega)) (le_max_l _ _)
theorem wo_at {x : Nat → Int} : ∀ k : Nat, 0 ≤ wo Q x k ∧ (wo Q x k = 0 ∨ ∃ j, j < k ∧ wo Q x k = ab (Q j - (x j : Rat)))
  | 0 => ⟨Rat.le_refl, .inl rfl⟩
  | k + 1 => by
    obtain ⟨h1, h2⟩ := wo_at (x := x) k
    show 0 ≤ max _ _ ∧ (max _ _ = 0 ∨ ∃ j, j < k + 1 ∧ max _ _ = _)
    refine ⟨Rat.le_trans h1 (le_max_l _ _), ?_⟩
    rw [Rat.max_def]
    split
    · exact .inr ⟨k, by omega, rfl⟩
    · rcases h2 with h2 | ⟨j, h2, h3⟩
      · exact .inl h2
      · exact .inr ⟨j, by omega, h3⟩
theorem ab_lt {a b : Rat} (h : ab a < b) : a < b ∧ -a < b := by
  unfold ab at h
  split at h <;> constructor <;> grind
theorem best (hL : n - isum (fun k => (Q k).floor) c = (L : Int)) (hc : cnt S c = L) (hu : Up (rest Q) c S) (hd : ∀ k, due Q c L k = (Q k).floor + if S k = true then 1 else 0) {x : Nat → Int} (hx : isum x c = n) : ¬ wo Q x c < wo Q (due Q c L) c := by
  intro hlt
  obtain ⟨h0, _⟩ := wo_at (Q := Q) (x := x) c
  obtain ⟨_, h1⟩ := wo_at (Q := Q) (x := due Q c L) c
  rcases h1 with h1 | ⟨k, hk, h1⟩
  · grind
  rw [h1] at hlt
  have all : ∀ j, j < c → ab (Q j - (x j : Rat)) < ab (Q k - (due Q c L k : Rat)) := fun j hj => by
    have := wo_ge (Q := Q) (x := x) hj
    grind
  have es : isum (fun j => x j - (Q j).floor) c = L := by
    have := isum_add (fun j => x j - (Q j).floor) (fun j => (Q j).floor) c
    have e : (fun j => x j - (Q j).floor + (Q j).floor) = x := by funext j; omega
    rw [e, hx] at this
    omega
  have rk := rest_01 Q k
  cases hS : S k with
  | true =>
    have ek : ab (Q k - (due Q c L k : Rat)) = 1 - rest Q k := by
      rw [hd, hS]
      unfold ab
      unfold rest at rk ⊢
      simp [Rat.intCast_add]
      split <;> grind
    have bd : isum (fun j => x j - (Q j).floor) c ≤ isum (fun j => if (if j = k then false else S j) = true then 1 else 0) c := isum_le fun j hj => by
      have a := (ab_lt (all j hj)).2
      rw [ek] at a
      have rj := rest_01 Q j
      have e' : ((x j - (Q j).floor : Int) : Rat) < rest Q j + 1 - rest Q k := by
        rw [Rat.intCast_sub]
        have : rest Q j = Q j - ((Q j).floor : Rat) := rfl
        grind
      by_cases e : j = k
      · subst e
        have := int_lt_one (z := x j - (Q j).floor) (by grind)
        simpa using this
      · simp only [if_neg e]
        cases hj' : S j with
        | true =>
          have := int_lt_two (z := x j - (Q j).floor) (by grind)
          simpa using this
        | false =>
          have l := hu.le hj hk hj' hS
          have := int_lt_one (z := x j - (Q j).floor) (by grind)
          simpa using this
    rw [isum_ind, es] at bd
    have := cnt_cut hk hS
    omega
  | false =>
    have ek : ab (Q k - (due Q c L k : Rat)) = rest Q k := by
      rw [hd, hS]
      unfold ab
      unfold rest at rk ⊢
      simp
      grind
    have bd : isum (fun j => if (if j = k then true else S j) = true then 1 else 0) c ≤ isum (fun j => x j - (Q j).floor) c := isum_le fun j hj => by
      have a := (ab_lt (all j hj)).1
      rw [ek] at a
      have rj := rest_01 Q j
      have e' : rest Q j - rest Q k < ((x j - (Q j).floor : Int) : Rat) := by
        rw [Rat.intCast_sub]
        have : rest Q j = Q j - ((Q j).floor : Rat) := rfl
        grind
      by_cases e : j = k
      · subst e
        have := int_gt_zero (z := x j - (Q j).floor) (by grind)
        simpa using this
      · simp only [if_neg e]
        cases hj' : S j with
        | true =>
          have l := hu.le hk hj hS hj'
          have := int_gt_zero (z := x j - (Q j).floor) (by grind)
          simpa using this
        | false =>
          have := int_gt_neg (z := x j - (Q j).floor) (by grind)
          simpa using this
    rw [isum_ind, es] at bd
    have := cnt_put (c := c) hk hS
    omega
end
end Pw.K62

namespace Pw.K62
open PySem L2 Pw
theorem cut_to {α : Type} (xs : List α) (k : Nat) : cut xs (some 0) (some (k : Int)) = xs.take k := by
  unfold cut HT.sIx
  have e : (if (k : Int) < 0 then ((k : Int) + (xs.length : Int)).toNat else min (k : Int).toNat xs.length) = min k xs.length := by rw [if_neg (by omega), Int.toNat_natCast]
  simp only [e]
  simp
theorem ints_tab (x : Nat → Int) (c : Nat) : intsOf (tab c fun k => .int (x k)) = some (tab c x) := by
  rw [← tab_map c x PV.int, ints_map]
theorem sum_tab_int (x : Nat → Int) : ∀ c : Nat, (tab c x).sum = isum x c
  | 0 => rfl
  | c + 1 => by rw [tab_succ, List.sum_append, sum_tab_int x c, isum_succ]; simp
def enc (r : List Int) : PV := .lst (r.map .int)
/-- a row, each of its numbers small -/
def Row (k : Nat) (r : List Int) : Prop := r.length = k ∧ ∀ y ∈ r, y.natAbs < 2 ^ 102
theorem Row.sum {k : Nat} {r : List Int} (h : Row k r) : r.sum.natAbs ≤ k * 2 ^ 102 := by
  obtain ⟨rfl, h⟩ := h
  induction r with
  | nil => simp
  | cons y r ih =>
    have a := h y List.mem_cons_self
    have b := ih fun z hz => h z (List.mem_cons_of_mem _ hz)
    rw [List.sum_cons, List.length_cons, Nat.succ_mul]
    omega
section
variable {c D : Nat} {Q : Nat → Rat} {n : Int}
theorem e_near (h : Am c Q D n) {m : Nat} (hm : m < c) (h3 : m ≤ 3) (W : Int) : ∃ rs : List (List Int), d_law_near [.lst (tab m fun k => fr (Q k)), .int W] = .ok (.lst (rs.map fun r => enc (r ++ [W - r.sum]))) ∧ rs.length ≤ 64 ∧ ∀ r ∈ rs, Row m r := by
  suffices hh : ∃ v, d_law_near [.lst (tab m fun k => fr (Q k)), .int W] = .ok v ∧ ∃ rs : List (List Int), v = .lst (rs.map fun r => enc (r ++ [W - r.sum])) ∧ rs.length ≤ 64 ∧ ∀ r ∈ rs, Row m r by
    obtain ⟨v, e, rs, rfl, h1, h2⟩ := hh
    exact ⟨rs, e, h1, h2⟩
  refine wp_runP _ fun P hP => ?_
  have e3 : cut (tab m fun k => fr (Q k)) (some 0) (some 3) = tab m fun k => fr (Q k) := by
    have := cut_to (tab m fun k => fr (Q k)) 3
    rw [List.take_of_length_le (by rw [tab_length]; exact h3)] at this
    exact this
  simp [b_law_near, e3]
  refine wp_forT (fun k e => ∃ (rs : List (List Int)) (x3 x4 x5 : Option PV), e = [some (.lst (tab m fun k => fr (Q k))), some (.int W), some (.lst (rs.map enc)), x3, x4, x5, none] ∧ rs.length = 4 ^ k ∧ ∀ r ∈ rs, Row k r) ⟨[[]], _, _, _, rfl, rfl, fun r hr => by simp at hr; subst hr; exact ⟨rfl, by simp⟩⟩ ?_ ?_
  · rintro k e hk ⟨rs, x3, x4, x5, rfl, hl, hr⟩ P hP
    have hk4 : 4 ^ k ≤ 16 := by
      have : 4 ^ k ≤ 4 ^ 2 := Nat.pow_le_pow_right (by omega) (by omega)
      omega
    have fl := e_law_floor h (k := k) (by omega)
    have fb : (Q k).floor.natAbs < 2 ^ 101 := by
      rw [Rat.floor_def]
      exact Nat.lt_of_le_of_lt (Int.natAbs_ediv_le_natAbs _ _) (h.sz (k := k) (by omega)).1
    generalize (Q k).floor = F at fl fb
    have ers := map_tab rs enc
    simp [lp1_law_near]
    rw [ers]
    refine wp_forT (fun i e => ∃ (ls : List (List Int)) (x5 : Option PV), e = [some (.lst (tab m fun k => fr (Q k))), some (.int W), some (.lst (tab rs.length fun i => enc (rs.getD i default))), some (fr (Q k)), some (.lst (ls.map enc)), x5, none] ∧ ls.length = 4 * i ∧ ∀ r ∈ ls, Row (k + 1) r) ⟨[], _, rfl, rfl, by simp⟩ ?_ ?_
    · rintro i e hi ⟨ls, x5, rfl, hl2, hr2⟩ P hP
      have hri : Row k (rs.getD i default) := hr _ (by rw [List.getD_eq_getElem?_getD, List.getElem?_eq_getElem hi]; exact List.getElem_mem _)
      generalize rs.getD i default = r at hri
      have rl := hri.1
      have r1 : r.length + 1 ≤ 16777216 := by omega
      have r2 : ls.length + 4 ≤ 16777216 := by omega
      have er : enc r = .lst (r.map .int) := rfl
      simp [lp2_law_near, compL, er, fl, r1, r2]
      refine hP _ ⟨ls ++ [r ++ [F + -1], r ++ [F], r ++ [F + 1], r ++ [F + 2]], some (.lst (r.map .int)), by simp [enc], by simp; omega, fun y hy => ?_⟩
      rcases List.mem_append.mp hy with hy | hy
      · exact hr2 y hy
      · have row : ∀ z : Int, z.natAbs < 2 ^ 102 → Row (k + 1) (r ++ [z]) := fun z hz => ⟨by simp [rl], fun w hw => by
          rcases List.mem_append.mp hw with hw | hw
          · exact hri.2 w hw
          · simp at hw; subst hw; exact hz⟩
        simp at hy
        rcases hy with rfl | rfl | rfl | rfl
        · exact row _ (by omega)
        · exact row _ (by omega)
        · exact row _ (by omega)
        · exact row _ (by omega)
    · rintro e ⟨ls, x5, rfl, hl2, hr2⟩
      simp
      exact hP _ ⟨ls, _, _, _, rfl, by rw [hl2, hl, Nat.pow_succ]; omega, hr2⟩
  · rintro e ⟨rs, x3, x4, x5, rfl, hl, hr⟩
    have hl4 : 4 ^ m ≤ 64 := by
      have : 4 ^ m ≤ 4 ^ 3 := Nat.pow_le_pow_right (by omega) (by omega)
      omega
    have r1 : rs.length ≤ 16777216 := by omega
    rw [map_tab rs enc]
    simp [r1]
    refine wp_comp (fun i => enc (rs.getD i default ++ [W - (rs.getD i default).sum])) (fun i hi => ?_) ?_
    · have hri : Row m (rs.getD i default) := hr _ (by rw [List.getD_eq_getElem?_getD, List.getElem?_eq_getElem hi]; exact List.getElem_mem _)
      simp only [List.getD_eq_getElem?_getD] at hri
      have rl := hri.1
      have r2 : m + 1 ≤ 16777216 := by omega
      simp [enc, rl, r2]
    · simp
      refine hP _ ⟨rs, ?_, by omega, hr⟩
      rw [map_tab rs fun r => enc (r ++ [W - r.sum])]
      simp
end
end Pw.K62

namespace Pw.K62
open PySem L2 Pw
section
variable {c D : Nat} {Q : Nat → Rat} {n : Int}
theorem Am.nsz (h : Am c Q D n) : n.natAbs ≤ 40 * 2 ^ 100 := by
  obtain ⟨_, z, hz, lz⟩ := (Gr.take (qs := tab c Q) h.D0 (fun q hq => by
    obtain ⟨k, hk, rfl⟩ := mem_tab.mp hq
    exact h.gr k hk) c (by rw [tab_length]; exact Nat.le_refl _))
  rw [take_tab (Nat.le_refl _), h.sum, ← Rat.intCast_natCast, ← Rat.intCast_mul] at hz
  have hz := Rat.intCast_inj.mp hz
  have hc : c * 2 ^ 100 ≤ 40 * 2 ^ 100 := Nat.mul_le_mul_right _ h.c40
  have h1 : n.natAbs * 1 ≤ n.natAbs * D := Nat.mul_le_mul_left _ h.D0
  have h2 : (n * (D : Int)).natAbs = n.natAbs * D := by rw [Int.natAbs_mul, Int.natAbs_natCast]
  rw [hz] at h2
  omega
theorem dp_frs (h : Am c Q D n) : Dp 14 (.lst (tab c fun k => fr (Q k))) := ⟨by rw [tab_length]; have := h.c40; omega, fun x hx => by
  obtain ⟨k, _, rfl⟩ := mem_tab.mp hx
  exact dp_fr 11 _⟩
theorem dp_ints {c : Nat} (hc : c ≤ 40) (x : Nat → Int) : Dp 14 (.lst (tab c fun k => .int (x k))) := ⟨by rw [tab_length]; omega, fun y hy => by
  obtain ⟨k, _, rfl⟩ := mem_tab.mp hy
  exact True.intro⟩
theorem isum_due {L : Nat} {S : Nat → Bool} (hL : n - isum (fun k => (Q k).floor) c = (L : Int)) (hc : cnt S c = L) (hd : ∀ k, due Q c L k = (Q k).floor + if S k = true then 1 else 0) : isum (due Q c L) c = n := by
  have e : due Q c L = fun k => (Q k).floor + if S k = true then 1 else 0 := funext hd
  rw [e, isum_add, isum_ind, hc]; omega
/-- a row of the near ones, as a function -/
theorem row_fn {m : Nat} {r : List Int} (hr : Row m r) (h3 : m ≤ 3) (hn : n.natAbs ≤ 40 * 2 ^ 100) : ∃ x : Nat → Int, enc (r ++ [n - r.sum]) = .lst (tab (m + 1) fun k => .int (x k)) ∧ isum x (m + 1) = n ∧ ∀ k, k < m + 1 → (x k).natAbs < 2 ^ 106 := by
  have e := tab_of (r ++ [n - r.sum])
  have hl : (r ++ [n - r.sum]).length = m + 1 := by simp [hr.1]
  rw [hl] at e
  have hs := hr.sum
  have hm : m * 2 ^ 102 ≤ 3 * 2 ^ 102 := Nat.mul_le_mul_right _ h3
  refine ⟨fun k => (r ++ [n - r.sum]).getD k default, ?_, ?_, fun k hk => ?_⟩
  · unfold enc
    conv => lhs; rw [e, tab_map]
  · rw [← sum_tab_int, ← e]
    simp; omega
  · show ((r ++ [n - r.sum]).getD k default).natAbs < 2 ^ 106
    rw [List.getD_eq_getElem?_getD, List.getElem?_eq_getElem (by omega)]
    have hmem : (r ++ [n - r.sum])[k] ∈ r ++ [n - r.sum] := List.getElem_mem _
    rcases List.mem_append.mp hmem with hy | hy
    · exact Nat.lt_trans (hr.2 _ hy) (by omega)
    · simp only [List.mem_singleton] at hy
      simp only [Option.getD_some, hy]
      omega
theorem law_run (h : Am c Q D n) {ns : List Int} {B : Nat} (hb : ∀ z ∈ ns, z.natAbs < 2 ^ B) (hB : B ≤ 1048576) (ha : d_law_amounts [.ro ns] = .ok (.lst (tab c fun k => fr (Q k)))) : d_law [.ro ns] = .ok (.bl true) := by
  obtain ⟨L, S, hL, hs, hc, hu, hd⟩ := due_set h
  have e1 := e_due h
  have e2 := e_whole_cents h
  rw [hL] at e1 e2
  have c40 := h.c40
  have di := isum_due hL hc hd
  have tot := e_total (qs := tab c Q) (D := D) (M := 2 ^ 100) (by have := h.D13; omega) h.D0 (by omega) (by rw [tab_length]; omega) fun q hq => by
    obtain ⟨k, hk, rfl⟩ := mem_tab.mp hq
    exact h.gr k hk
  rw [tab_map, h.sum, fr_int] at tot
  have cp : d_law_copy [.lst (tab c fun k => fr (Q k))] = _ := e_copy (dp_frs h)
  have l1 : d_law_like [.lst (tab c fun k => fr (Q k)), .lst (tab c fun k => fr (Q k))] = _ := e_like (dp_frs h)
  have l2 := fun x : Nat → Int => e_like (dp_ints c40 x)
  have l3 := fun q : Rat => e_like (dp_fr 12 q)
  have db : ∀ k, k < c → (due Q c L k).natAbs < 2 ^ 106 := fun k hk => Nat.lt_trans (due_bound h hk) (by omega)
  have w1 := e_worst h db
  have g1 := e_gdiff h db
  obtain ⟨p, hp, hr⟩ := e_draws hb hB 1 40
  have hp : d_law_draws [.ro ns, .int 1, .int 40] = _ := hp
  have ob : ∀ k, k < c → (due Q c L k + (p k : Int) % 5 - 2).natAbs < 2 ^ 106 := fun k hk => by
    have := due_bound (L := L) h hk
    omega
  have w2 := e_worst h ob
  have g2 := e_gdiff h ob
  have hl : c < 4611686018427387904 := by omega
  have hl2 : c ≤ 16777216 := by omega
  refine wp_run fun P hP => ?_
  simp -implicitDefEqProofs [b_law, ha, cp, e1, e2, l1, l2, ints_tab, sum_tab_int, di, tot, hl, hl2, rng_len]
  refine wp_compFN (fun _ => false) (fun _ => .non) (fun k hk => ?_) (fun k hk h => by cases h) ?_
  · simp -implicitDefEqProofs [hk, due_rounds h hs hc hu hd hk]
  have l3w := l3 (wo Q (due Q c L) c)
  have l3o := l3 (wo Q (fun k => due Q c L k + (p k : Int) % 5 - 2) c)
  simp -implicitDefEqProofs [w1, g1, l3w, hp, hl, hl2, rng_len]
  refine wp_compN (fun k => .int (due Q c L k + (p k : Int) % 5 - 2)) (fun k hk => ?_) ?_
  · simp -implicitDefEqProofs [hk, show k < 40 by omega]
  simp -implicitDefEqProofs [w2, g2, l3o, hl, hl2]
  by_cases h4 : (c : Int) ≤ 4
  · by_cases h1 : 1 < (c : Int)
    · obtain ⟨m, rfl⟩ : ∃ m, c = m + 1 := ⟨c - 1, by omega⟩
      have em : ((m + 1 : Nat) : Int) - 1 = (m : Int) := by omega
      have ec : cut (tab (m + 1) fun k => fr (Q k)) (some 0) (some (m : Int)) = tab m fun k => fr (Q k) := by rw [cut_to, take_tab (by omega)]
      obtain ⟨rs, en, hrl, hrr⟩ := e_near h (m := m) (by omega) (by omega) n
      simp -implicitDefEqProofs only [h4, h1, if_true, decide_true, Rs.bind_ok, ints_tab, sum_tab_int, di, Rs.noexc_ok, em, ec, en, oIter_r1, thn_thn]
      rw [map_tab rs]
      refine wp_forT (fun k e => ∃ x10, e = [some (.ro ns), some (.lst (tab (m + 1) fun k => fr (Q k))), some (.lst (tab (m + 1) fun k => fr (Q k))), some (.lst (tab (m + 1) fun k => .int (due Q (m + 1) L k))), some (.lst (tab (m + 1) fun k => .int (due Q (m + 1) L k))), none, some (fr (wo Q (due Q (m + 1) L) (m + 1))), some (.lst (tab 40 fun k => .int (p k : Nat))), some (.lst (tab (m + 1) fun k => .int (due Q (m + 1) L k + (p k : Int) % 5 - 2))), some (.lst (tab m fun k => fr (Q k))), x10]) ⟨_, rfl⟩ ?_ ?_
      · rintro i e hi ⟨x10, rfl⟩ P hP
        have hri : Row m (rs.getD i default) := hrr _ (by rw [List.getD_eq_getElem?_getD, List.getElem?_eq_getElem hi]; exact List.getElem_mem _)
        generalize rs.getD i default = r at hri
        obtain ⟨x, ex, xs, xb⟩ := row_fn hri (by omega) h.nsz
        rw [ex]
        have wx := e_worst h xb
        have gx := e_gdiff h xb
        have bx := best hL hc hu hd xs
        obtain ⟨m1, m2, _, _⟩ := (wo_sz h xb (Nat.le_refl _)).mulOk (wo_sz h db (Nat.le_refl _)) (by omega)
        rw [Rat.lt_iff] at bx
        have l3x := l3 (wo Q x (m + 1))
        simp -implicitDefEqProofs [lp1_law, wx, gx, m1, m2, bx, l3x]
        exact hP _ ⟨_, rfl⟩
      · rintro e ⟨x10, rfl⟩
        simp -implicitDefEqProofs [e2, l1, l2]
        exact hP
    · simp -implicitDefEqProofs [h4, h1, e2, l1, l2]
      exact hP
  · simp -implicitDefEqProofs [h4, e2, l1, l2]
    exact hP
end
theorem law_holds (ns : List Int) (hl : ns.length ≤ 63) (hb : ∀ z ∈ ns, Builtin.Int.intBits z ≤ 1048576) : d_law [.ro ns] = .ok (.bl true) := by
  have hb' : ∀ z ∈ ns, z.natAbs < 2 ^ (1048576 : Nat) := fun z hz => bits_of (hb z hz)
  obtain ⟨c, Q, D, n, h1, h2, h3, h4, h5, h6, h7⟩ := e_amounts hb' (Nat.le_refl _)
  exact law_run ⟨h2, h3, h4, h5, h6, h7⟩ hb' (Nat.le_refl _) h1
end Pw.K62

namespace Pw.K62
open PySem L2 Pw
section
variable {P : Program} {w : World} {K : PySem.W.Frag} {mg : Str → Option Value} {base : Heap}
theorem sc_fraction : FnScope N_fraction ps_fraction (defScope s_fraction) := ⟨rfl, rfl, rfl, by decide +kernel, rfl, by decide +kernel, by decide +kernel⟩
theorem ok_fraction {f : Addr} {fd : FuncData} (T : Tx mg) (Fu : L2.Fun K "fraction" "fraction" s_fraction f fd) (b : Binds K fd ps_fraction []) (hm : mg "fraction" = some (.ref f))   : Fn P w K mg base "fraction" 1 ps_fraction 0 d_fraction :=
  fn_mk (ds := [0, 0, 0]) (fb := b_fraction) Fu sc_fraction b hm 0 (zds 3) fun cd A outer s H F E hr => by
    have nd := (sc_fraction).nd
    have hu : (A.deeper (PyProof.Rows.envOfC "fraction" (defScope s_fraction) s.heap.objs.size f cd)).units + 64 < cLine := hr.units
    have hu5 : (A.deeper (PyProof.Rows.envOfC "fraction" (defScope s_fraction) s.heap.objs.size f cd)).units + 65 < cLine := by have := hr.un; omega
    
    exact (qb_cons (ds1 := [0, 0, 0]) (qs_if (ds' := [0, 0, 0]) (qt_cmp o_lt (qe_rd (qe_v 1)) (qe_rd qe_int) (nomark _)) (qb_cons (ds1 := [0, 0, 0]) (qs_par 0 1 rfl nd (qe_neg (qe_v 0)) (qe_neg (qe_v 1))) qb_nil) qb_nil) (qb_cons (ds1 := [0, 0, 0]) (qs_set 2 (qe_callF c_gcd (by rfl) T.m_gcd (qr_cons (qe_rd (qe_v 0)) (qr_cons (qe_rd (qe_v 1)) qr_nil))) nd) (qb_cons (ds1 := [0, 0, 0]) (qs_ret (d := 0) rfl (qe_tup (qa_cons (qe_op o_div (qe_rd (qe_v 0)) (qe_rd (qe_v 2))) (qa_cons (qe_op o_div (qe_rd (qe_v 1)) (qe_rd (qe_v 2))) qa_nil)))) qb_nil)))
theorem sc_whole : FnScope N_whole ps_whole (defScope s_whole) := ⟨rfl, rfl, rfl, by decide +kernel, rfl, by decide +kernel, by decide +kernel⟩
theorem ok_whole {f : Addr} {fd : FuncData} (T : Tx mg) (Fu : L2.Fun K "whole" "whole" s_whole f fd) (b : Binds K fd ps_whole []) (hm : mg "whole" = some (.ref f))   : Fn P w K mg base "whole" 1 ps_whole 0 d_whole :=
  fn_mk (ds := [0]) (fb := b_whole) Fu sc_whole b hm 0 (zds 1) fun cd A outer s H F E hr => by
    have nd := (sc_whole).nd
    have hu : (A.deeper (PyProof.Rows.envOfC "whole" (defScope s_whole) s.heap.objs.size f cd)).units + 64 < cLine := hr.units
    have hu5 : (A.deeper (PyProof.Rows.envOfC "whole" (defScope s_whole) s.heap.objs.size f cd)).units + 65 < cLine := by have := hr.un; omega
    
    exact (qb_cons (ds1 := [0]) (qs_ret (d := 0) rfl (qe_tup (qa_cons (qe_v 0) (qa_cons qe_int qa_nil)))) qb_nil)
theorem sc_plus : FnScope N_plus ps_plus (defScope s_plus) := ⟨rfl, rfl, rfl, by decide +kernel, rfl, by decide +kernel, by decide +kernel⟩
theorem ok_plus {f : Addr} {fd : FuncData} (T : Tx mg) (Fu : L2.Fun K "plus" "plus" s_plus f fd) (b : Binds K fd ps_plus []) (hm : mg "plus" = some (.ref f)) (F_fraction : Fn P w K mg base "fraction" 1 ps_fraction 0 d_fraction)  : Fn P w K mg base "plus" 2 ps_plus 0 d_plus :=
  fn_mk (ds := [0, 0]) (fb := b_plus) Fu sc_plus b hm 0 (zds 2) fun cd A outer s H F E hr => by
    have nd := (sc_plus).nd
    have hu : (A.deeper (PyProof.Rows.envOfC "plus" (defScope s_plus) s.heap.objs.size f cd)).units + 64 < cLine := hr.units
    have hu5 : (A.deeper (PyProof.Rows.envOfC "plus" (defScope s_plus) s.heap.objs.size f cd)).units + 65 < cLine := by have := hr.un; omega
    have F_fraction := F_fraction.mono (k := 1) (by omega)
    exact (qb_cons (ds1 := [0, 0]) (qs_ret (d := 0) rfl (qe_fun F_fraction hr px_takes (by rfl) (qa_cons (qe_op o_add (qe_rd (qe_op o_mul (qe_rd (qe_ix (qe_rd (qe_v 0)) (qe_rd qe_int))) (qe_rd (qe_ix (qe_rd (qe_v 1)) (qe_rd qe_int))))) (qe_rd (qe_op o_mul (qe_rd (qe_ix (qe_rd (qe_v 1)) (qe_rd qe_int))) (qe_rd (qe_ix (qe_rd (qe_v 0)) (qe_rd qe_int)))))) (qa_cons (qe_op o_mul (qe_rd (qe_ix (qe_rd (qe_v 0)) (qe_rd qe_int))) (qe_rd (qe_ix (qe_rd (qe_v 1)) (qe_rd qe_int)))) qa_nil)))) qb_nil)
theorem sc_minus : FnScope N_minus ps_minus (defScope s_minus) := ⟨rfl, rfl, rfl, by decide +kernel, rfl, by decide +kernel, by decide +kernel⟩
theorem ok_minus {f : Addr} {fd : FuncData} (T : Tx mg) (Fu : L2.Fun K "minus" "minus" s_minus f fd) (b : Binds K fd ps_minus []) (hm : mg "minus" = some (.ref f)) (F_fraction : Fn P w K mg base "fraction" 1 ps_fraction 0 d_fraction)  : Fn P w K mg base "minus" 2 ps_minus 0 d_minus :=
  fn_mk (ds := [0, 0]) (fb := b_minus) Fu sc_minus b hm 0 (zds 2) fun cd A outer s H F E hr => by
    have nd := (sc_minus).nd
    have hu : (A.deeper (PyProof.Rows.envOfC "minus" (defScope s_minus) s.heap.objs.size f cd)).units + 64 < cLine := hr.units
    have hu5 : (A.deeper (PyProof.Rows.envOfC "minus" (defScope s_minus) s.heap.objs.size f cd)).units + 65 < cLine := by have := hr.un; omega
    have F_fraction := F_fraction.mono (k := 1) (by omega)
    exact (qb_cons (ds1 := [0, 0]) (qs_ret (d := 0) rfl (qe_fun F_fraction hr px_takes (by rfl) (qa_cons (qe_op o_sub (qe_rd (qe_op o_mul (qe_rd (qe_ix (qe_rd (qe_v 0)) (qe_rd qe_int))) (qe_rd (qe_ix (qe_rd (qe_v 1)) (qe_rd qe_int))))) (qe_rd (qe_op o_mul (qe_rd (qe_ix (qe_rd (qe_v 1)) (qe_rd qe_int))) (qe_rd (qe_ix (qe_rd (qe_v 0)) (qe_rd qe_int)))))) (qa_cons (qe_op o_mul (qe_rd (qe_ix (qe_rd (qe_v 0)) (qe_rd qe_int))) (qe_rd (qe_ix (qe_rd (qe_v 1)) (qe_rd qe_int)))) qa_nil)))) qb_nil)
theorem sc_is_less : FnScope N_is_less ps_is_less (defScope s_is_less) := ⟨rfl, rfl, rfl, by decide +kernel, rfl, by decide +kernel, by decide +kernel⟩
theorem ok_is_less {f : Addr} {fd : FuncData} (T : Tx mg) (Fu : L2.Fun K "is_less" "is_less" s_is_less f fd) (b : Binds K fd ps_is_less []) (hm : mg "is_less" = some (.ref f))   : Fn P w K mg base "is_less" 1 ps_is_less 0 d_is_less :=
  fn_mk (ds := [0, 0]) (fb := b_is_less) Fu sc_is_less b hm 0 (zds 2) fun cd A outer s H F E hr => by
    have nd := (sc_is_less).nd
    have hu : (A.deeper (PyProof.Rows.envOfC "is_less" (defScope s_is_less) s.heap.objs.size f cd)).units + 64 < cLine := hr.units
    have hu5 : (A.deeper (PyProof.Rows.envOfC "is_less" (defScope s_is_less) s.heap.objs.size f cd)).units + 65 < cLine := by have := hr.un; omega
    
    exact (qb_cons (ds1 := [0, 0]) (qs_ret (d := 0) rfl (qe_cmp o_lt (qe_rd (qe_op o_mul (qe_rd (qe_ix (qe_rd (qe_v 0)) (qe_rd qe_int))) (qe_rd (qe_ix (qe_rd (qe_v 1)) (qe_rd qe_int))))) (qe_rd (qe_op o_mul (qe_rd (qe_ix (qe_rd (qe_v 1)) (qe_rd qe_int))) (qe_rd (qe_ix (qe_rd (qe_v 0)) (qe_rd qe_int))))) (nomark _))) qb_nil)
theorem sc_sum_of : FnScope N_sum_of ps_sum_of (defScope s_sum_of) := ⟨rfl, rfl, rfl, by decide +kernel, rfl, by decide +kernel, by decide +kernel⟩
theorem ok_sum_of {f : Addr} {fd : FuncData} (T : Tx mg) (Fu : L2.Fun K "sum_of" "sum_of" s_sum_of f fd) (b : Binds K fd ps_sum_of []) (hm : mg "sum_of" = some (.ref f)) (F_plus : Fn P w K mg base "plus" 2 ps_plus 0 d_plus) (C_ZERO : Cn K mg "ZERO" c_ZERO) : Fn P w K mg base "sum_of" 3 ps_sum_of 0 d_sum_of :=
  fn_mk (ds := [0, 0, 0]) (fb := b_sum_of) Fu sc_sum_of b hm 0 (zds 3) fun cd A outer s H F E hr => by
    have nd := (sc_sum_of).nd
    have hu : (A.deeper (PyProof.Rows.envOfC "sum_of" (defScope s_sum_of) s.heap.objs.size f cd)).units + 64 < cLine := hr.units
    have hu5 : (A.deeper (PyProof.Rows.envOfC "sum_of" (defScope s_sum_of) s.heap.objs.size f cd)).units + 65 < cLine := by have := hr.un; omega
    have F_plus := F_plus.mono (k := 2) (by omega)
    exact (qb_cons (ds1 := [0, 0, 0]) (qs_set 1 (C_ZERO.qe (by rfl)) nd) (qb_cons (ds1 := [0, 0, 0]) (qs_for px_passes rfl (qi_e (qe_v 0)) (qg_n 2 (hN := nd)) (qb_cons (ds1 := [0, 0, 0]) (qs_set 1 (qe_fun F_plus hr px_takes (by rfl) (qa_cons (qe_v 1) (qa_cons (qe_v 2) qa_nil))) nd) qb_nil)) (qb_cons (ds1 := [0, 0, 0]) (qs_ret (d := 0) rfl (qe_v 1)) qb_nil)))
theorem sc_greater : FnScope N_greater ps_greater (defScope s_greater) := ⟨rfl, rfl, rfl, by decide +kernel, rfl, by decide +kernel, by decide +kernel⟩
theorem ok_greater {f : Addr} {fd : FuncData} (T : Tx mg) (Fu : L2.Fun K "greater" "greater" s_greater f fd) (b : Binds K fd ps_greater []) (hm : mg "greater" = some (.ref f)) (F_is_less : Fn P w K mg base "is_less" 1 ps_is_less 0 d_is_less)  : Fn P w K mg base "greater" 2 ps_greater 0 d_greater :=
  fn_mk (ds := [0, 0]) (fb := b_greater) Fu sc_greater b hm 0 (zds 2) fun cd A outer s H F E hr => by
    have nd := (sc_greater).nd
    have hu : (A.deeper (PyProof.Rows.envOfC "greater" (defScope s_greater) s.heap.objs.size f cd)).units + 64 < cLine := hr.units
    have hu5 : (A.deeper (PyProof.Rows.envOfC "greater" (defScope s_greater) s.heap.objs.size f cd)).units + 65 < cLine := by have := hr.un; omega
    have F_is_less := F_is_less.mono (k := 1) (by omega)
    exact (qb_cons (ds1 := [0, 0]) (qs_if (ds' := [0, 0]) (qt_tru (qe_rd (qe_fun F_is_less hr px_takes (by rfl) (qa_cons (qe_v 0) (qa_cons (qe_v 1) qa_nil))))) (qb_cons (ds1 := [0, 0]) (qs_ret (d := 0) rfl (qe_v 1)) qb_nil) qb_nil) (qb_cons (ds1 := [0, 0]) (qs_ret (d := 0) rfl (qe_v 0)) qb_nil))
theorem sc_floor_of : FnScope N_floor_of ps_floor_of (defScope s_floor_of) := ⟨rfl, rfl, rfl, by decide +kernel, rfl, by decide +kernel, by decide +kernel⟩
theorem ok_floor_of {f : Addr} {fd : FuncData} (T : Tx mg) (Fu : L2.Fun K "floor_of" "floor_of" s_floor_of f fd) (b : Binds K fd ps_floor_of []) (hm : mg "floor_of" = some (.ref f))   : Fn P w K mg base "floor_of" 1 ps_floor_of 0 d_floor_of :=
  fn_mk (ds := [0]) (fb := b_floor_of) Fu sc_floor_of b hm 0 (zds 1) fun cd A outer s H F E hr => by
    have nd := (sc_floor_of).nd
    have hu : (A.deeper (PyProof.Rows.envOfC "floor_of" (defScope s_floor_of) s.heap.objs.size f cd)).units + 64 < cLine := hr.units
    have hu5 : (A.deeper (PyProof.Rows.envOfC "floor_of" (defScope s_floor_of) s.heap.objs.size f cd)).units + 65 < cLine := by have := hr.un; omega
    
    exact (qb_cons (ds1 := [0]) (qs_ret (d := 0) rfl (qe_op o_div (qe_rd (qe_ix (qe_rd (qe_v 0)) (qe_rd qe_int))) (qe_rd (qe_ix (qe_rd (qe_v 0)) (qe_rd qe_int))))) qb_nil)
theorem sc_rest_of : FnScope N_rest_of ps_rest_of (defScope s_rest_of) := ⟨rfl, rfl, rfl, by decide +kernel, rfl, by decide +kernel, by decide +kernel⟩
theorem ok_rest_of {f : Addr} {fd : FuncData} (T : Tx mg) (Fu : L2.Fun K "rest_of" "rest_of" s_rest_of f fd) (b : Binds K fd ps_rest_of []) (hm : mg "rest_of" = some (.ref f)) (F_minus : Fn P w K mg base "minus" 2 ps_minus 0 d_minus) (F_whole : Fn P w K mg base "whole" 1 ps_whole 0 d_whole) (F_floor_of : Fn P w K mg base "floor_of" 1 ps_floor_of 0 d_floor_of)  : Fn P w K mg base "rest_of" 3 ps_rest_of 0 d_rest_of :=
  fn_mk (ds := [0]) (fb := b_rest_of) Fu sc_rest_of b hm 0 (zds 1) fun cd A outer s H F E hr => by
    have nd := (sc_rest_of).nd
    have hu : (A.deeper (PyProof.Rows.envOfC "rest_of" (defScope s_rest_of) s.heap.objs.size f cd)).units + 64 < cLine := hr.units
    have hu5 : (A.deeper (PyProof.Rows.envOfC "rest_of" (defScope s_rest_of) s.heap.objs.size f cd)).units + 65 < cLine := by have := hr.un; omega
    have F_minus := F_minus.mono (k := 2) (by omega)
    have F_whole := F_whole.mono (k := 2) (by omega)
    have F_floor_of := F_floor_of.mono (k := 2) (by omega)
    exact (qb_cons (ds1 := [0]) (qs_ret (d := 0) rfl (qe_fun F_minus hr px_takes (by rfl) (qa_cons (qe_v 0) (qa_cons (qe_fun F_whole hr px_takes (by rfl) (qa_cons (qe_fun F_floor_of hr px_takes (by rfl) (qa_cons (qe_v 0) qa_nil)) qa_nil)) qa_nil)))) qb_nil)
theorem sc_place_of_greatest : FnScope N_place_of_greatest ps_place_of_greatest (defScope s_place_of_greatest) := ⟨rfl, rfl, rfl, by decide +kernel, rfl, by decide +kernel, by decide +kernel⟩
theorem ok_place_of_greatest {f : Addr} {fd : FuncData} (T : Tx mg) (Fu : L2.Fun K "place_of_greatest" "place_of_greatest" s_place_of_greatest f fd) (b : Binds K fd ps_place_of_greatest []) (hm : mg "place_of_greatest" = some (.ref f)) (F_is_less : Fn P w K mg base "is_less" 1 ps_is_less 0 d_is_less)  : Fn P w K mg base "place_of_greatest" 2 ps_place_of_greatest 0 d_place_of_greatest :=
  fn_mk (ds := [0, 0, 0, 0]) (fb := b_place_of_greatest) Fu sc_place_of_greatest b hm 0 (zds 4) fun cd A outer s H F E hr => by
    have nd := (sc_place_of_greatest).nd
    have hu : (A.deeper (PyProof.Rows.envOfC "place_of_greatest" (defScope s_place_of_greatest) s.heap.objs.size f cd)).units + 64 < cLine := hr.units
    have hu5 : (A.deeper (PyProof.Rows.envOfC "place_of_greatest" (defScope s_place_of_greatest) s.heap.objs.size f cd)).units + 65 < cLine := by have := hr.un; omega
    have F_is_less := F_is_less.mono (k := 1) (by omega)
    exact (qb_cons (ds1 := [0, 0, 0, 0]) (qs_set 1 qe_int nd) (qb_cons (ds1 := [0, 0, 0, 0]) (qs_for px_passes rfl (qi_enum (by rfl) T.z_enumerate (qa_cons (qe_v 0) qa_nil)) (qg_t rfl (qgs_cons (qg_n 2 (hN := nd)) (qgs_cons (qg_n 3 (hN := nd)) qgs_nil))) (qb_cons (ds1 := [0, 0, 0, 0]) (qs_if (ds' := [0, 0, 0, 0]) (qt_tru (qe_rd (qe_fun F_is_less hr px_takes (by rfl) (qa_cons (qe_ix (qe_rd (qe_v 0)) (qe_rd (qe_v 1))) (qa_cons (qe_v 3) qa_nil))))) (qb_cons (ds1 := [0, 0, 0, 0]) (qs_set 1 (qe_v 2) nd) qb_nil) qb_nil) qb_nil)) (qb_cons (ds1 := [0, 0, 0, 0]) (qs_ret (d := 0) rfl (qe_v 1)) qb_nil)))
theorem sc_whole_cents : FnScope N_whole_cents ps_whole_cents (defScope s_whole_cents) := ⟨rfl, rfl, rfl, by decide +kernel, rfl, by decide +kernel, by decide +kernel⟩
theorem ok_whole_cents {f : Addr} {fd : FuncData} (T : Tx mg) (Fu : L2.Fun K "whole_cents" "whole_cents" s_whole_cents f fd) (b : Binds K fd ps_whole_cents []) (hm : mg "whole_cents" = some (.ref f)) (F_floor_of : Fn P w K mg base "floor_of" 1 ps_floor_of 0 d_floor_of) (F_rest_of : Fn P w K mg base "rest_of" 3 ps_rest_of 0 d_rest_of) (F_sum_of : Fn P w K mg base "sum_of" 3 ps_sum_of 0 d_sum_of) (F_place_of_greatest : Fn P w K mg base "place_of_greatest" 2 ps_place_of_greatest 0 d_place_of_greatest) (F_whole : Fn P w K mg base "whole" 1 ps_whole 0 d_whole)  : Fn P w K mg base "whole_cents" 4 ps_whole_cents 0 d_whole_cents :=
  fn_mk (ds := [0, 0, 0, 0, 0, 0, 0]) (fb := b_whole_cents) Fu sc_whole_cents b hm 0 (zds 7) fun cd A outer s H F E hr => by
    have nd := (sc_whole_cents).nd
    have hu : (A.deeper (PyProof.Rows.envOfC "whole_cents" (defScope s_whole_cents) s.heap.objs.size f cd)).units + 64 < cLine := hr.units
    have hu5 : (A.deeper (PyProof.Rows.envOfC "whole_cents" (defScope s_whole_cents) s.heap.objs.size f cd)).units + 65 < cLine := by have := hr.un; omega
    have F_floor_of := F_floor_of.mono (k := 3) (by omega)
    have F_rest_of := F_rest_of.mono (k := 3) (by omega)
    have F_sum_of := F_sum_of.mono (k := 3) (by omega)
    have F_place_of_greatest := F_place_of_greatest.mono (k := 3) (by omega)
    have F_whole := F_whole.mono (k := 3) (by omega)
    exact (qb_cons (ds1 := [0, 1, 0, 0, 0, 0, 0]) (qs_setLc 1 (d := 1) (by omega) (own := [("amount", 2)]) rfl nd (qi_e (qe_v 0)) (blkOk_by (N := N_whole_cents) (sc := defScope s_whole_cents) (by decide +kernel)) (by decide) (fun _ _ _ _ _ => (qg_n 2 (hN := nd))) (fun _ _ _ _ _ => qts_nil) (fun _ _ _ _ _ => (qe_fun F_floor_of hr takes0 (by rfl) (qa_cons (qe_v 2) qa_nil))) (sw_true rfl rfl rfl (by decide +kernel))) (qb_cons (ds1 := [0, 1, 0, 1, 0, 0, 0]) (qs_setLc 3 (d := 1) (by omega) (own := [("amount", 2)]) rfl nd (qi_e (qe_v 0)) (blkOk_by (N := N_whole_cents) (sc := defScope s_whole_cents) (by decide +kernel)) (by decide) (fun _ _ _ _ _ => (qg_n 2 (hN := nd))) (fun _ _ _ _ _ => qts_nil) (fun _ _ _ _ _ => (qe_fun F_rest_of hr takes0 (by rfl) (qa_cons (qe_v 2) qa_nil))) (sw_true rfl rfl rfl (by decide +kernel))) (qb_cons (ds1 := [0, 1, 0, 1, 0, 0, 0]) (qs_set 4 (qe_ix (qe_rd (qe_funB F_sum_of hr px_takes (by rfl) (qr_cons (qe_rdv 3) qr_nil))) (qe_rd qe_int)) nd) (qb_cons (ds1 := [0, 1, 0, 1, 0, 0, 0]) (qs_for px_passes rfl (qi_range1 (by rfl) T.z_range (qr_cons (qe_rd (qe_v 4)) qr_nil)) (qg_n 5 (hN := nd)) (qb_cons (ds1 := [0, 1, 0, 1, 0, 0, 0]) (qs_set 6 (qe_funB F_place_of_greatest hr px_takes (by rfl) (qr_cons (qe_rdv 3) qr_nil)) nd) (qb_cons (ds1 := [0, 1, 0, 1, 0, 0, 0]) (qs_putA 1 io_add (qe_v 6) (qe_rd qe_int)) (qb_cons (ds1 := [0, 1, 0, 1, 0, 0, 0]) (qs_put 3 (qe_fun F_whole hr px_takes (by rfl) (qa_cons (qe_neg qe_int) qa_nil)) (qe_v 6)) qb_nil)))) (qb_frz 1 (show QB _ [0, 0, 0, 1, 0, 0, 0] _ _ _ from (qb_cons (ds1 := [0, 0, 0, 1, 0, 0, 0]) (qs_ret (d := 0) rfl (qe_v 1)) qb_nil)))))))
theorem sc_difference : FnScope N_difference ps_difference (defScope s_difference) := ⟨rfl, rfl, rfl, by decide +kernel, rfl, by decide +kernel, by decide +kernel⟩
theorem ok_difference {f : Addr} {fd : FuncData} (T : Tx mg) (Fu : L2.Fun K "difference" "difference" s_difference f fd) (b : Binds K fd ps_difference []) (hm : mg "difference" = some (.ref f)) (F_is_less : Fn P w K mg base "is_less" 1 ps_is_less 0 d_is_less) (F_minus : Fn P w K mg base "minus" 2 ps_minus 0 d_minus)  : Fn P w K mg base "difference" 3 ps_difference 0 d_difference :=
  fn_mk (ds := [0, 0]) (fb := b_difference) Fu sc_difference b hm 0 (zds 2) fun cd A outer s H F E hr => by
    have nd := (sc_difference).nd
    have hu : (A.deeper (PyProof.Rows.envOfC "difference" (defScope s_difference) s.heap.objs.size f cd)).units + 64 < cLine := hr.units
    have hu5 : (A.deeper (PyProof.Rows.envOfC "difference" (defScope s_difference) s.heap.objs.size f cd)).units + 65 < cLine := by have := hr.un; omega
    have F_is_less := F_is_less.mono (k := 2) (by omega)
    have F_minus := F_minus.mono (k := 2) (by omega)
    exact (qb_cons (ds1 := [0, 0]) (qs_if (ds' := [0, 0]) (qt_tru (qe_rd (qe_fun F_is_less hr px_takes (by rfl) (qa_cons (qe_v 0) (qa_cons (qe_v 1) qa_nil))))) (qb_cons (ds1 := [0, 0]) (qs_ret (d := 0) rfl (qe_fun F_minus hr px_takes (by rfl) (qa_cons (qe_v 1) (qa_cons (qe_v 0) qa_nil)))) qb_nil) qb_nil) (qb_cons (ds1 := [0, 0]) (qs_ret (d := 0) rfl (qe_fun F_minus hr px_takes (by rfl) (qa_cons (qe_v 0) (qa_cons (qe_v 1) qa_nil)))) qb_nil))
theorem sc_greatest_difference : FnScope N_greatest_difference ps_greatest_difference (defScope s_greatest_difference) := ⟨rfl, rfl, rfl, by decide +kernel, rfl, by decide +kernel, by decide +kernel⟩
theorem ok_greatest_difference {f : Addr} {fd : FuncData} (T : Tx mg) (Fu : L2.Fun K "greatest_difference" "greatest_difference" s_greatest_difference f fd) (b : Binds K fd ps_greatest_difference []) (hm : mg "greatest_difference" = some (.ref f)) (F_greater : Fn P w K mg base "greater" 2 ps_greater 0 d_greater) (F_difference : Fn P w K mg base "difference" 3 ps_difference 0 d_difference) (F_whole : Fn P w K mg base "whole" 1 ps_whole 0 d_whole) (C_ZERO : Cn K mg "ZERO" c_ZERO) : Fn P w K mg base "greatest_difference" 4 ps_greatest_difference 0 d_greatest_difference :=
  fn_mk (ds := [0, 0, 0, 0, 0]) (fb := b_greatest_difference) Fu sc_greatest_difference b hm 0 (zds 5) fun cd A outer s H F E hr => by
    have nd := (sc_greatest_difference).nd
    have hu : (A.deeper (PyProof.Rows.envOfC "greatest_difference" (defScope s_greatest_difference) s.heap.objs.size f cd)).units + 64 < cLine := hr.units
    have hu5 : (A.deeper (PyProof.Rows.envOfC "greatest_difference" (defScope s_greatest_difference) s.heap.objs.size f cd)).units + 65 < cLine := by have := hr.un; omega
    have F_greater := F_greater.mono (k := 3) (by omega)
    have F_difference := F_difference.mono (k := 3) (by omega)
    have F_whole := F_whole.mono (k := 3) (by omega)
    exact (qb_cons (ds1 := [0, 0, 0, 0, 0]) (qs_set 2 (C_ZERO.qe (by rfl)) nd) (qb_cons (ds1 := [0, 0, 0, 0, 0]) (qs_for px_passes rfl (qi_zip (by rfl) T.z_zip (qa_cons (qe_v 0) (qa_cons (qe_v 1) qa_nil))) (qg_t rfl (qgs_cons (qg_n 3 (hN := nd)) (qgs_cons (qg_n 4 (hN := nd)) qgs_nil))) (qb_cons (ds1 := [0, 0, 0, 0, 0]) (qs_set 2 (qe_fun F_greater hr px_takes (by rfl) (qa_cons (qe_v 2) (qa_cons (qe_fun F_difference hr px_takes (by rfl) (qa_cons (qe_v 3) (qa_cons (qe_fun F_whole hr px_takes (by rfl) (qa_cons (qe_v 4) qa_nil)) qa_nil))) qa_nil))) nd) qb_nil)) (qb_cons (ds1 := [0, 0, 0, 0, 0]) (qs_ret (d := 0) rfl (qe_v 2)) qb_nil)))
theorem sc_law_draws : FnScope N_law_draws ps_law_draws (defScope s_law_draws) := ⟨rfl, rfl, rfl, by decide +kernel, rfl, by decide +kernel, by decide +kernel⟩
theorem ok_law_draws {f : Addr} {fd : FuncData} (T : Tx mg) (Fu : L2.Fun K "_law_draws" "_law_draws" s_law_draws f fd) (b : Binds K fd ps_law_draws []) (hm : mg "_law_draws" = some (.ref f))   : Fn P w K mg base "_law_draws" 1 ps_law_draws 0 d_law_draws :=
  fn_mk (ds := [0, 0, 0, 0, 0, 0, 0, 0]) (fb := b_law_draws) Fu sc_law_draws b hm 0 (zds 8) fun cd A outer s H F E hr => by
    have nd := (sc_law_draws).nd
    have hu : (A.deeper (PyProof.Rows.envOfC "_law_draws" (defScope s_law_draws) s.heap.objs.size f cd)).units + 64 < cLine := hr.units
    have hu5 : (A.deeper (PyProof.Rows.envOfC "_law_draws" (defScope s_law_draws) s.heap.objs.size f cd)).units + 65 < cLine := by have := hr.un; omega
    
    exact (qb_cons (ds1 := [0, 0, 0, 0, 0, 0, 0, 0]) (qs_set 3 qe_int nd) (qb_cons (ds1 := [0, 0, 0, 0, 0, 0, 0, 0]) (qs_if (ds' := [0, 0, 0, 0, 0, 0, 0, 0]) (qt_cmp o_lt (qe_rd (qe_v 1)) (qe_rd (qe_callB c_len (by rfl) T.z_len b_len (qr_cons (qe_rd (qe_v 0)) qr_nil))) (nomark _)) (qb_cons (ds1 := [0, 0, 0, 0, 0, 0, 0, 0]) (qs_set 3 (qe_callT c_int (by rfl) T.z_int b_int (qr_cons (qe_rd (qe_ix (qe_rd (qe_v 0)) (qe_rd (qe_v 1)))) qr_nil)) nd) qb_nil) qb_nil) (qb_cons (ds1 := [0, 0, 0, 0, 0, 0, 0, 0]) (qs_set 4 (qe_cmp o_ge (qe_rd (qe_v 3)) (qe_rd (qe_op o_pow (qe_rd qe_int) (qe_rd qe_int))) (nomark _)) nd) (qb_cons (ds1 := [0, 0, 0, 0, 0, 1, 0, 0]) (qs_set 5 (qe_lst (d := 1) (by omega) qa_nil) nd) (qb_cons (ds1 := [0, 0, 0, 0, 0, 1, 0, 0]) (qs_for px_passes rfl (qi_range1 (by rfl) T.z_range (qr_cons (qe_rd (qe_v 2)) qr_nil)) (qg_n 6 (hN := nd)) (qb_cons (ds1 := [0, 0, 0, 0, 0, 1, 0, 0]) (qs_if (ds' := [0, 0, 0, 0, 0, 1, 0, 0]) (qt_tru (qe_rd (qe_v 4))) (qb_cons (ds1 := [0, 0, 0, 0, 0, 1, 0, 0]) (qs_app 5 (qe_op o_mod (qe_rd (qe_callT c_int (by rfl) T.z_int b_int (qr_cons (qe_rd (qe_v 3)) qr_nil))) (qe_rd qe_int))) (qb_cons (ds1 := [0, 0, 0, 0, 0, 1, 0, 0]) (qs_set 3 (qe_op o_div (qe_rd (qe_v 3)) (qe_rd qe_int)) nd) qb_nil)) (qb_cons (ds1 := [0, 0, 0, 0, 0, 1, 0, 0]) (qs_set 7 (qe_op o_mod (qe_rd (qe_callT c_int (by rfl) T.z_int b_int (qr_cons (qe_rd (qe_op o_add (qe_rd (qe_op o_add (qe_rd (qe_op o_mul (qe_rd (qe_v 3)) (qe_rd qe_int))) (qe_rd (qe_op o_mul (qe_rd (qe_op o_add (qe_rd (qe_v 6)) (qe_rd (qe_op o_mul (qe_rd qe_int) (qe_rd (qe_v 1)))))) (qe_rd qe_int))))) (qe_rd qe_int))) qr_nil))) (qe_rd qe_int)) nd) (qb_cons (ds1 := [0, 0, 0, 0, 0, 1, 0, 0]) (qs_set 7 (qe_op o_mod (qe_rd (qe_callT c_int (by rfl) T.z_int b_int (qr_cons (qe_rd (qe_op o_add (qe_rd (qe_op o_add (qe_rd (qe_op o_mul (qe_rd (qe_v 7)) (qe_rd (qe_v 7)))) (qe_rd (qe_op o_mul (qe_rd (qe_v 7)) (qe_rd qe_int))))) (qe_rd (qe_op o_mul (qe_rd (qe_v 6)) (qe_rd qe_int))))) qr_nil))) (qe_rd qe_int)) nd) (qb_cons (ds1 := [0, 0, 0, 0, 0, 1, 0, 0]) (qs_app 5 (qe_op o_mod (qe_rd (qe_callT c_int (by rfl) T.z_int b_int (qr_cons (qe_rd (qe_op o_div (qe_rd (qe_v 7)) (qe_rd qe_int))) qr_nil))) (qe_rd qe_int))) qb_nil)))) qb_nil)) (qb_frz 5 (show QB _ [0, 0, 0, 0, 0, 0, 0, 0] _ _ _ from (qb_cons (ds1 := [0, 0, 0, 0, 0, 0, 0, 0]) (qs_ret (d := 0) rfl (qe_v 5)) qb_nil))))))))
theorem sc_law_like : FnScope N_law_like ps_law_like (defScope s_law_like) := ⟨rfl, rfl, rfl, by decide +kernel, rfl, by decide +kernel, by decide +kernel⟩
theorem okN_law_like {f : Addr} {fd : FuncData} (T : Tx mg) (Fu : L2.Fun K "_law_like" "_law_like" s_law_like f fd) (b : Binds K fd ps_law_like []) (hm : mg "_law_like" = some (.ref f))   : ∀ n : Nat, Fn P w K mg base "_law_like" (0 + 1 + n) ps_law_like 0 (d_law_likeN n)
  | 0 => fn_stuck Fu sc_law_like b hm 0 0
  | n + 1 => by
    have F_law_like := okN_law_like T Fu b hm   n
    exact fn_mk (ds := [0, 0, 0]) (fb := b_law_like (d_law_likeN n)) Fu sc_law_like b hm 0 (zds 3) fun cd A outer s H F E hr => by
      have nd := (sc_law_like).nd
      have hu : (A.deeper (PyProof.Rows.envOfC "_law_like" (defScope s_law_like) s.heap.objs.size f cd)).units + 64 < cLine := hr.units
      have hu5 : (A.deeper (PyProof.Rows.envOfC "_law_like" (defScope s_law_like) s.heap.objs.size f cd)).units + 65 < cLine := by have := hr.un; omega
      
      exact (qb_cons (ds1 := [0, 0, 0]) (qs_if (ds' := [0, 0, 0]) (qt_tru (qe_rd (qe_isi2 (T := "list") (U := "tuple") (by decide) (by decide) (by rfl) T.z_isinstance rfl (by rfl) T.z_list b_list (by rfl) T.z_tuple b_tuple (qe_rd (qe_v 1))))) (qb_cons (ds1 := [0, 0, 0]) (qs_if (ds' := [0, 0, 0]) (qw_or (qt_cmp (o_ne hu) (qe_rd (qe_isi (T := "list") (by decide) (by rfl) T.z_isinstance rfl (by rfl) T.z_list b_list (qe_rd (qe_v 0)))) (qe_rd (qe_isi (T := "list") (by decide) (by rfl) T.z_isinstance rfl (by rfl) T.z_list b_list (qe_rd (qe_v 1)))) (nomark _)) (qw_or1 (qt_cmp (o_ne hu) (qe_rd (qe_isi (T := "tuple") (by decide) (by rfl) T.z_isinstance rfl (by rfl) T.z_tuple b_tuple (qe_rd (qe_v 0)))) (qe_rd (qe_isi (T := "tuple") (by decide) (by rfl) T.z_isinstance rfl (by rfl) T.z_tuple b_tuple (qe_rd (qe_v 1)))) (nomark _)))).t (qb_cons (ds1 := [0, 0, 0]) (qs_ret (d := 0) rfl qe_bl) qb_nil) qb_nil) (qb_cons (ds1 := [0, 0, 0]) (qs_if (ds' := [0, 0, 0]) (qt_cmp (o_ne hu) (qe_rd (qe_callB c_len (by rfl) T.z_len b_len (qr_cons (qe_rd (qe_v 0)) qr_nil))) (qe_rd (qe_callB c_len (by rfl) T.z_len b_len (qr_cons (qe_rd (qe_v 1)) qr_nil))) (nomark _)) (qb_cons (ds1 := [0, 0, 0]) (qs_ret (d := 0) rfl qe_bl) qb_nil) qb_nil) (qb_cons (ds1 := [0, 0, 0]) (qs_for px_passes rfl (qi_range1 (by rfl) T.z_range (qr_cons (qe_rd (qe_callB c_len (by rfl) T.z_len b_len (qr_cons (qe_rd (qe_v 1)) qr_nil))) qr_nil)) (qg_n 2 (hN := nd)) (qb_cons (ds1 := [0, 0, 0]) (qs_if (ds' := [0, 0, 0]) (qt_not (qt_tru (qe_rd (qe_fun F_law_like hr px_takes (by rfl) (qa_cons (qe_ix (qe_rd (qe_v 0)) (qe_rd (qe_v 2))) (qa_cons (qe_ix (qe_rd (qe_v 1)) (qe_rd (qe_v 2))) qa_nil)))))) (qb_cons (ds1 := [0, 0, 0]) (qs_ret (d := 0) rfl qe_bl) qb_nil) qb_nil) qb_nil)) (qb_cons (ds1 := [0, 0, 0]) (qs_ret (d := 0) rfl qe_bl) qb_nil)))) qb_nil) (qb_cons (ds1 := [0, 0, 0]) (qs_if (ds' := [0, 0, 0]) (qt_cmp o_is (qe_rd (qe_v 1)) (qe_rd qe_non) (nomark _)) (qb_cons (ds1 := [0, 0, 0]) (qs_ret (d := 0) rfl (qe_cmp o_is (qe_rd (qe_v 0)) (qe_rd qe_non) (nomark _))) qb_nil) qb_nil) (qb_cons (ds1 := [0, 0, 0]) (qs_if (ds' := [0, 0, 0]) (qt_tru (qe_rd (qe_isi (T := "bool") (by decide) (by rfl) T.z_isinstance rfl (by rfl) T.z_bool b_bool (qe_rd (qe_v 1))))) (qb_cons (ds1 := [0, 0, 0]) (qs_ret (d := 0) rfl (qe_and (qe_isi (T := "bool") (by decide) (by rfl) T.z_isinstance rfl (by rfl) T.z_bool b_bool (qe_rd (qe_v 0))) (qe_one (qe_cmp (o_eq hu) (qe_rd (qe_v 0)) (qe_rd (qe_v 1)) (nomark _))))) qb_nil) qb_nil) (qb_cons (ds1 := [0, 0, 0]) (qs_if (ds' := [0, 0, 0]) (qt_tru (qe_rd (qe_isi (T := "int") (by decide) (by rfl) T.z_isinstance rfl (by rfl) T.z_int b_int (qe_rd (qe_v 1))))) (qb_cons (ds1 := [0, 0, 0]) (qs_ret (d := 0) rfl (qe_and (qe_isi (T := "int") (by decide) (by rfl) T.z_isinstance rfl (by rfl) T.z_int b_int (qe_rd (qe_v 0))) (qe_and (qe_not (qe_isi (T := "bool") (by decide) (by rfl) T.z_isinstance rfl (by rfl) T.z_bool b_bool (qe_rd (qe_v 0)))) (qe_one (qe_cmp (o_eq hu) (qe_rd (qe_v 0)) (qe_rd (qe_v 1)) (nomark _)))))) qb_nil) qb_nil) (qb_cons (ds1 := [0, 0, 0]) (qs_ret (d := 0) rfl (qe_and (qe_isi (T := "str") (by decide) (by rfl) T.z_isinstance rfl (by rfl) T.z_str b_str (qe_rd (qe_v 0))) (qe_one (qe_cmp (o_eq hu) (qe_rd (qe_v 0)) (qe_rd (qe_v 1)) (nomark _))))) qb_nil)))))
theorem ok_law_like {f : Addr} {fd : FuncData} (T : Tx mg) (Fu : L2.Fun K "_law_like" "_law_like" s_law_like f fd) (b : Binds K fd ps_law_like []) (hm : mg "_law_like" = some (.ref f))   : Fn P w K mg base "_law_like" 15 ps_law_like 0 d_law_like := okN_law_like T Fu b hm   14
theorem sc_law_copy : FnScope N_law_copy ps_law_copy (defScope s_law_copy) := ⟨rfl, rfl, rfl, by decide +kernel, rfl, by decide +kernel, by decide +kernel⟩
theorem okN_law_copy {f : Addr} {fd : FuncData} (T : Tx mg) (Fu : L2.Fun K "_law_copy" "_law_copy" s_law_copy f fd) (b : Binds K fd ps_law_copy []) (hm : mg "_law_copy" = some (.ref f))   : ∀ n : Nat, Fn P w K mg base "_law_copy" (0 + 1 + n) ps_law_copy 0 (d_law_copyN n)
  | 0 => fn_stuck Fu sc_law_copy b hm 0 0
  | n + 1 => by
    have F_law_copy := okN_law_copy T Fu b hm   n
    exact fn_mk (ds := [0, 0]) (fb := b_law_copy (d_law_copyN n)) Fu sc_law_copy b hm 0 (zds 2) fun cd A outer s H F E hr => by
      have nd := (sc_law_copy).nd
      have hu : (A.deeper (PyProof.Rows.envOfC "_law_copy" (defScope s_law_copy) s.heap.objs.size f cd)).units + 64 < cLine := hr.units
      have hu5 : (A.deeper (PyProof.Rows.envOfC "_law_copy" (defScope s_law_copy) s.heap.objs.size f cd)).units + 65 < cLine := by have := hr.un; omega
      
      exact (qb_cons (ds1 := [0, 0]) (qs_if (ds' := [0, 0]) (qt_tru (qe_rd (qe_isi (T := "list") (by decide) (by rfl) T.z_isinstance rfl (by rfl) T.z_list b_list (qe_rd (qe_v 0))))) (qb_cons (ds1 := [0, 0]) (qs_ret (d := 0) rfl (qe_lc (d := 0) (by omega) (own := [("part", 1)]) rfl nd (qi_e (qe_v 0)) (blkOk_by (N := N_law_copy) (sc := defScope s_law_copy) (by decide +kernel)) (by decide) (fun _ _ _ _ _ => (qg_n 1 (hN := nd))) (fun _ _ _ _ _ => qts_nil) (fun _ _ _ _ _ => (qe_fun F_law_copy hr takes0 (by rfl) (qa_cons (qe_v 1) qa_nil))))) qb_nil) qb_nil) (qb_cons (ds1 := [0, 0]) (qs_if (ds' := [0, 0]) (qt_tru (qe_rd (qe_isi (T := "tuple") (by decide) (by rfl) T.z_isinstance rfl (by rfl) T.z_tuple b_tuple (qe_rd (qe_v 0))))) (qb_cons (ds1 := [0, 0]) (qs_ret (d := 0) rfl (qe_callT c_tuple (by rfl) T.z_tuple b_tuple (qr_cons (qe_rd (qe_lc (d := 0) (by omega) (own := [("part", 1)]) rfl nd (qi_e (qe_v 0)) (blkOk_by (N := N_law_copy) (sc := defScope s_law_copy) (by decide +kernel)) (by decide) (fun _ _ _ _ _ => (qg_n 1 (hN := nd))) (fun _ _ _ _ _ => qts_nil) (fun _ _ _ _ _ => (qe_fun F_law_copy hr takes0 (by rfl) (qa_cons (qe_v 1) qa_nil))))) qr_nil))) qb_nil) qb_nil) (qb_cons (ds1 := [0, 0]) (qs_ret (d := 0) rfl (qe_v 0)) qb_nil)))
theorem ok_law_copy {f : Addr} {fd : FuncData} (T : Tx mg) (Fu : L2.Fun K "_law_copy" "_law_copy" s_law_copy f fd) (b : Binds K fd ps_law_copy []) (hm : mg "_law_copy" = some (.ref f))   : Fn P w K mg base "_law_copy" 15 ps_law_copy 0 d_law_copy := okN_law_copy T Fu b hm   14
theorem sc_law_frac : FnScope N_law_frac ps_law_frac (defScope s_law_frac) := ⟨rfl, rfl, rfl, by decide +kernel, rfl, by decide +kernel, by decide +kernel⟩
theorem ok_law_frac {f : Addr} {fd : FuncData} (T : Tx mg) (Fu : L2.Fun K "_law_frac" "_law_frac" s_law_frac f fd) (b : Binds K fd ps_law_frac []) (hm : mg "_law_frac" = some (.ref f))   : Fn P w K mg base "_law_frac" 1 ps_law_frac 0 d_law_frac :=
  fn_mk (ds := [0, 0, 0, 0]) (fb := b_law_frac) Fu sc_law_frac b hm 0 (zds 4) fun cd A outer s H F E hr => by
    have nd := (sc_law_frac).nd
    have hu : (A.deeper (PyProof.Rows.envOfC "_law_frac" (defScope s_law_frac) s.heap.objs.size f cd)).units + 64 < cLine := hr.units
    have hu5 : (A.deeper (PyProof.Rows.envOfC "_law_frac" (defScope s_law_frac) s.heap.objs.size f cd)).units + 65 < cLine := by have := hr.un; omega
    
    exact (qb_cons (ds1 := [0, 0, 0, 0]) (qs_set 2 (qe_callB c_abs (by rfl) T.z_abs b_abs (qr_cons (qe_rd (qe_v 0)) qr_nil)) nd) (qb_cons (ds1 := [0, 0, 0, 0]) (qs_set 3 (qe_v 1) nd) (qb_cons (ds1 := [0, 0, 0, 0]) (qs_while px_passes (qt_cmp o_gt (qe_rd (qe_v 3)) (qe_rd qe_int) (nomark _)) (qb_cons (ds1 := [0, 0, 0, 0]) (qs_par 2 3 rfl nd (qe_v 3) (qe_op o_mod (qe_rd (qe_callT c_int (by rfl) T.z_int b_int (qr_cons (qe_rd (qe_v 2)) qr_nil))) (qe_rd (qe_v 3)))) qb_nil)) (qb_cons (ds1 := [0, 0, 0, 0]) (qs_ret (d := 0) rfl (qe_tup (qa_cons (qe_op o_div (qe_rd (qe_v 0)) (qe_rd (qe_v 2))) (qa_cons (qe_op o_div (qe_rd (qe_v 1)) (qe_rd (qe_v 2))) qa_nil)))) qb_nil))))
theorem sc_law_plus : FnScope N_law_plus ps_law_plus (defScope s_law_plus) := ⟨rfl, rfl, rfl, by decide +kernel, rfl, by decide +kernel, by decide +kernel⟩
theorem ok_law_plus {f : Addr} {fd : FuncData} (T : Tx mg) (Fu : L2.Fun K "_law_plus" "_law_plus" s_law_plus f fd) (b : Binds K fd ps_law_plus []) (hm : mg "_law_plus" = some (.ref f)) (F_law_frac : Fn P w K mg base "_law_frac" 1 ps_law_frac 0 d_law_frac)  : Fn P w K mg base "_law_plus" 2 ps_law_plus 0 d_law_plus :=
  fn_mk (ds := [0, 0]) (fb := b_law_plus) Fu sc_law_plus b hm 0 (zds 2) fun cd A outer s H F E hr => by
    have nd := (sc_law_plus).nd
    have hu : (A.deeper (PyProof.Rows.envOfC "_law_plus" (defScope s_law_plus) s.heap.objs.size f cd)).units + 64 < cLine := hr.units
    have hu5 : (A.deeper (PyProof.Rows.envOfC "_law_plus" (defScope s_law_plus) s.heap.objs.size f cd)).units + 65 < cLine := by have := hr.un; omega
    have F_law_frac := F_law_frac.mono (k := 1) (by omega)
    exact (qb_cons (ds1 := [0, 0]) (qs_ret (d := 0) rfl (qe_fun F_law_frac hr px_takes (by rfl) (qa_cons (qe_op o_add (qe_rd (qe_op o_mul (qe_rd (qe_ix (qe_rd (qe_v 0)) (qe_rd qe_int))) (qe_rd (qe_ix (qe_rd (qe_v 1)) (qe_rd qe_int))))) (qe_rd (qe_op o_mul (qe_rd (qe_ix (qe_rd (qe_v 1)) (qe_rd qe_int))) (qe_rd (qe_ix (qe_rd (qe_v 0)) (qe_rd qe_int)))))) (qa_cons (qe_op o_mul (qe_rd (qe_ix (qe_rd (qe_v 0)) (qe_rd qe_int))) (qe_rd (qe_ix (qe_rd (qe_v 1)) (qe_rd qe_int)))) qa_nil)))) qb_nil)
theorem sc_law_minus : FnScope N_law_minus ps_law_minus (defScope s_law_minus) := ⟨rfl, rfl, rfl, by decide +kernel, rfl, by decide +kernel, by decide +kernel⟩
theorem ok_law_minus {f : Addr} {fd : FuncData} (T : Tx mg) (Fu : L2.Fun K "_law_minus" "_law_minus" s_law_minus f fd) (b : Binds K fd ps_law_minus []) (hm : mg "_law_minus" = some (.ref f)) (F_law_frac : Fn P w K mg base "_law_frac" 1 ps_law_frac 0 d_law_frac)  : Fn P w K mg base "_law_minus" 2 ps_law_minus 0 d_law_minus :=
  fn_mk (ds := [0, 0]) (fb := b_law_minus) Fu sc_law_minus b hm 0 (zds 2) fun cd A outer s H F E hr => by
    have nd := (sc_law_minus).nd
    have hu : (A.deeper (PyProof.Rows.envOfC "_law_minus" (defScope s_law_minus) s.heap.objs.size f cd)).units + 64 < cLine := hr.units
    have hu5 : (A.deeper (PyProof.Rows.envOfC "_law_minus" (defScope s_law_minus) s.heap.objs.size f cd)).units + 65 < cLine := by have := hr.un; omega
    have F_law_frac := F_law_frac.mono (k := 1) (by omega)
    exact (qb_cons (ds1 := [0, 0]) (qs_ret (d := 0) rfl (qe_fun F_law_frac hr px_takes (by rfl) (qa_cons (qe_op o_sub (qe_rd (qe_op o_mul (qe_rd (qe_ix (qe_rd (qe_v 0)) (qe_rd qe_int))) (qe_rd (qe_ix (qe_rd (qe_v 1)) (qe_rd qe_int))))) (qe_rd (qe_op o_mul (qe_rd (qe_ix (qe_rd (qe_v 1)) (qe_rd qe_int))) (qe_rd (qe_ix (qe_rd (qe_v 0)) (qe_rd qe_int)))))) (qa_cons (qe_op o_mul (qe_rd (qe_ix (qe_rd (qe_v 0)) (qe_rd qe_int))) (qe_rd (qe_ix (qe_rd (qe_v 1)) (qe_rd qe_int)))) qa_nil)))) qb_nil)
theorem sc_law_total : FnScope N_law_total ps_law_total (defScope s_law_total) := ⟨rfl, rfl, rfl, by decide +kernel, rfl, by decide +kernel, by decide +kernel⟩
theorem ok_law_total {f : Addr} {fd : FuncData} (T : Tx mg) (Fu : L2.Fun K "_law_total" "_law_total" s_law_total f fd) (b : Binds K fd ps_law_total []) (hm : mg "_law_total" = some (.ref f)) (F_law_plus : Fn P w K mg base "_law_plus" 2 ps_law_plus 0 d_law_plus)  : Fn P w K mg base "_law_total" 3 ps_law_total 0 d_law_total :=
  fn_mk (ds := [0, 0, 0]) (fb := b_law_total) Fu sc_law_total b hm 0 (zds 3) fun cd A outer s H F E hr => by
    have nd := (sc_law_total).nd
    have hu : (A.deeper (PyProof.Rows.envOfC "_law_total" (defScope s_law_total) s.heap.objs.size f cd)).units + 64 < cLine := hr.units
    have hu5 : (A.deeper (PyProof.Rows.envOfC "_law_total" (defScope s_law_total) s.heap.objs.size f cd)).units + 65 < cLine := by have := hr.un; omega
    have F_law_plus := F_law_plus.mono (k := 2) (by omega)
    exact (qb_cons (ds1 := [0, 0, 0]) (qs_set 1 (qe_tup (qa_cons qe_int (qa_cons qe_int qa_nil))) nd) (qb_cons (ds1 := [0, 0, 0]) (qs_for px_passes rfl (qi_e (qe_v 0)) (qg_n 2 (hN := nd)) (qb_cons (ds1 := [0, 0, 0]) (qs_set 1 (qe_fun F_law_plus hr px_takes (by rfl) (qa_cons (qe_v 1) (qa_cons (qe_v 2) qa_nil))) nd) qb_nil)) (qb_cons (ds1 := [0, 0, 0]) (qs_ret (d := 0) rfl (qe_v 1)) qb_nil)))
theorem sc_law_floor : FnScope N_law_floor ps_law_floor (defScope s_law_floor) := ⟨rfl, rfl, rfl, by decide +kernel, rfl, by decide +kernel, by decide +kernel⟩
theorem ok_law_floor {f : Addr} {fd : FuncData} (T : Tx mg) (Fu : L2.Fun K "_law_floor" "_law_floor" s_law_floor f fd) (b : Binds K fd ps_law_floor []) (hm : mg "_law_floor" = some (.ref f))   : Fn P w K mg base "_law_floor" 1 ps_law_floor 0 d_law_floor :=
  fn_mk (ds := [0]) (fb := b_law_floor) Fu sc_law_floor b hm 0 (zds 1) fun cd A outer s H F E hr => by
    have nd := (sc_law_floor).nd
    have hu : (A.deeper (PyProof.Rows.envOfC "_law_floor" (defScope s_law_floor) s.heap.objs.size f cd)).units + 64 < cLine := hr.units
    have hu5 : (A.deeper (PyProof.Rows.envOfC "_law_floor" (defScope s_law_floor) s.heap.objs.size f cd)).units + 65 < cLine := by have := hr.un; omega
    
    exact (qb_cons (ds1 := [0]) (qs_ret (d := 0) rfl (qe_op o_div (qe_rd (qe_ix (qe_rd (qe_v 0)) (qe_rd qe_int))) (qe_rd (qe_ix (qe_rd (qe_v 0)) (qe_rd qe_int))))) qb_nil)
theorem sc_law_rounds : FnScope N_law_rounds ps_law_rounds (defScope s_law_rounds) := ⟨rfl, rfl, rfl, by decide +kernel, rfl, by decide +kernel, by decide +kernel⟩
theorem ok_law_rounds {f : Addr} {fd : FuncData} (T : Tx mg) (Fu : L2.Fun K "_law_rounds" "_law_rounds" s_law_rounds f fd) (b : Binds K fd ps_law_rounds []) (hm : mg "_law_rounds" = some (.ref f))   : Fn P w K mg base "_law_rounds" 1 ps_law_rounds 0 d_law_rounds :=
  fn_mk (ds := [0, 0]) (fb := b_law_rounds) Fu sc_law_rounds b hm 0 (zds 2) fun cd A outer s H F E hr => by
    have nd := (sc_law_rounds).nd
    have hu : (A.deeper (PyProof.Rows.envOfC "_law_rounds" (defScope s_law_rounds) s.heap.objs.size f cd)).units + 64 < cLine := hr.units
    have hu5 : (A.deeper (PyProof.Rows.envOfC "_law_rounds" (defScope s_law_rounds) s.heap.objs.size f cd)).units + 65 < cLine := by have := hr.un; omega
    
    exact (qb_cons (ds1 := [0, 0]) (qs_ret (d := 0) rfl (qe_and (qe_cmp o_lt (qe_rd (qe_op o_mul (qe_rd (qe_v 0)) (qe_rd (qe_ix (qe_rd (qe_v 1)) (qe_rd qe_int))))) (qe_rd (qe_op o_add (qe_rd (qe_ix (qe_rd (qe_v 1)) (qe_rd qe_int))) (qe_rd (qe_ix (qe_rd (qe_v 1)) (qe_rd qe_int))))) (nomark _)) (qe_one (qe_cmp o_gt (qe_rd (qe_op o_mul (qe_rd (qe_v 0)) (qe_rd (qe_ix (qe_rd (qe_v 1)) (qe_rd qe_int))))) (qe_rd (qe_op o_sub (qe_rd (qe_ix (qe_rd (qe_v 1)) (qe_rd qe_int))) (qe_rd (qe_ix (qe_rd (qe_v 1)) (qe_rd qe_int))))) (nomark _))))) qb_nil)
theorem sc_law_amounts : FnScope N_law_amounts ps_law_amounts (defScope s_law_amounts) := ⟨rfl, rfl, rfl, by decide +kernel, rfl, by decide +kernel, by decide +kernel⟩
theorem ok_law_amounts {f : Addr} {fd : FuncData} (T : Tx mg) (Fu : L2.Fun K "_law_amounts" "_law_amounts" s_law_amounts f fd) (b : Binds K fd ps_law_amounts []) (hm : mg "_law_amounts" = some (.ref f)) (F_law_draws : Fn P w K mg base "_law_draws" 1 ps_law_draws 0 d_law_draws) (F_law_frac : Fn P w K mg base "_law_frac" 1 ps_law_frac 0 d_law_frac) (F_law_total : Fn P w K mg base "_law_total" 3 ps_law_total 0 d_law_total) (F_law_minus : Fn P w K mg base "_law_minus" 2 ps_law_minus 0 d_law_minus)  : Fn P w K mg base "_law_amounts" 4 ps_law_amounts 0 d_law_amounts :=
  fn_mk (ds := [0, 0, 0, 0, 0, 0, 0, 0, 0, 0]) (fb := b_law_amounts) Fu sc_law_amounts b hm 0 (zds 10) fun cd A outer s H F E hr => by
    have nd := (sc_law_amounts).nd
    have hu : (A.deeper (PyProof.Rows.envOfC "_law_amounts" (defScope s_law_amounts) s.heap.objs.size f cd)).units + 64 < cLine := hr.units
    have hu5 : (A.deeper (PyProof.Rows.envOfC "_law_amounts" (defScope s_law_amounts) s.heap.objs.size f cd)).units + 65 < cLine := by have := hr.un; omega
    have F_law_draws := F_law_draws.mono (k := 3) (by omega)
    have F_law_frac := F_law_frac.mono (k := 3) (by omega)
    have F_law_total := F_law_total.mono (k := 3) (by omega)
    have F_law_minus := F_law_minus.mono (k := 3) (by omega)
    exact (qb_cons (ds1 := [0, 0, 0, 0, 0, 0, 0, 0, 0, 0]) (qs_set 1 (qe_fun F_law_draws hr px_takes (by rfl) (qa_cons (qe_v 0) (qa_cons qe_int (qa_cons qe_int qa_nil)))) nd) (qb_cons (ds1 := [0, 0, 0, 0, 0, 0, 0, 0, 0, 0]) (qs_set 2 (qe_op o_add (qe_rd qe_int) (qe_rd (qe_op o_mod (qe_rd (qe_ix (qe_rd (qe_v 1)) (qe_rd qe_int))) (qe_rd qe_int)))) nd) (qb_cons (ds1 := [0, 0, 0, 0, 0, 0, 0, 0, 0, 0]) (qs_if (ds' := [0, 0, 0, 0, 0, 0, 0, 0, 0, 0]) (qt_cmp (o_eq hu) (qe_rd (qe_op o_mod (qe_rd (qe_ix (qe_rd (qe_v 1)) (qe_rd qe_int))) (qe_rd qe_int))) (qe_rd qe_int) (nomark _)) (qb_cons (ds1 := [0, 0, 0, 0, 0, 0, 0, 0, 0, 0]) (qs_set 2 qe_int nd) qb_nil) qb_nil) (qb_cons (ds1 := [0, 0, 0, 0, 0, 0, 0, 0, 0, 0]) (qs_set 3 (qe_lst (d := 0) (by omega) (qa_cons (qe_ix (qe_rd (qe_lst (d := 0) (by omega) (qa_cons qe_int (qa_cons qe_int (qa_cons qe_int (qa_cons qe_int (qa_cons qe_int qa_nil))))))) (qe_rd (qe_op o_mod (qe_rd (qe_ix (qe_rd (qe_v 1)) (qe_rd qe_int))) (qe_rd qe_int)))) (qa_cons (qe_op o_add (qe_rd qe_int) (qe_rd (qe_op o_mod (qe_rd (qe_ix (qe_rd (qe_v 1)) (qe_rd qe_int))) (qe_rd qe_int)))) (qa_cons qe_int (qa_cons qe_int qa_nil))))) nd) (qb_cons (ds1 := [0, 0, 0, 0, 1, 0, 0, 0, 0, 0]) (qs_set 4 (qe_lst (d := 1) (by omega) qa_nil) nd) (qb_cons (ds1 := [0, 0, 0, 0, 1, 0, 0, 0, 0, 0]) (qs_for px_passes rfl (qi_range1 (by rfl) T.z_range (qr_cons (qe_rd (qe_op o_sub (qe_rd (qe_v 2)) (qe_rd qe_int))) qr_nil)) (qg_n 5 (hN := nd)) (qb_cons (ds1 := [0, 0, 0, 0, 1, 0, 0, 0, 0, 0]) (qs_set 6 (qe_ix (qe_rd (qe_v 1)) (qe_rd (qe_op o_add (qe_rd qe_int) (qe_rd (qe_v 5))))) nd) (qb_cons (ds1 := [0, 0, 0, 0, 1, 0, 0, 0, 0, 0]) (qs_set 7 (qe_ix (qe_rd (qe_v 3)) (qe_rd (qe_ix (qe_rd (qe_lst (d := 0) (by omega) (qa_cons qe_int (qa_cons qe_int (qa_cons qe_int (qa_cons qe_int (qa_cons qe_int (qa_cons qe_int qa_nil)))))))) (qe_rd (qe_op o_mod (qe_rd (qe_v 6)) (qe_rd qe_int)))))) nd) (qb_cons (ds1 := [0, 0, 0, 0, 1, 0, 0, 0, 0, 0]) (qs_set 8 (qe_op o_sub (qe_rd (qe_op o_mod (qe_rd (qe_op o_div (qe_rd (qe_v 6)) (qe_rd qe_int))) (qe_rd (qe_op o_mul (qe_rd qe_int) (qe_rd (qe_v 7)))))) (qe_rd (qe_op o_mul (qe_rd qe_int) (qe_rd (qe_v 7))))) nd) (qb_cons (ds1 := [0, 0, 0, 0, 1, 0, 0, 0, 0, 0]) (qs_if (ds' := [0, 0, 0, 0, 1, 0, 0, 0, 0, 0]) (qt_cmp (o_eq hu) (qe_rd (qe_op o_mod (qe_rd (qe_ix (qe_rd (qe_v 1)) (qe_rd qe_int))) (qe_rd qe_int))) (qe_rd qe_int) (nomark _)) (qb_cons (ds1 := [0, 0, 0, 0, 1, 0, 0, 0, 0, 0]) (qs_set 8 (qe_op o_add (qe_rd (qe_v 8)) (qe_rd (qe_op o_mul (qe_rd (qe_v 6)) (qe_rd (qe_op o_pow (qe_rd qe_int) (qe_rd qe_int)))))) nd) qb_nil) qb_nil) (qb_cons (ds1 := [0, 0, 0, 0, 1, 0, 0, 0, 0, 0]) (qs_app 4 (qe_fun F_law_frac hr px_takes (by rfl) (qa_cons (qe_v 8) (qa_cons (qe_v 7) qa_nil)))) qb_nil)))))) (qb_cons (ds1 := [0, 0, 0, 0, 1, 0, 0, 0, 0, 0]) (qs_set 9 (qe_funB F_law_total hr px_takes (by rfl) (qr_cons (qe_rdv 4) qr_nil)) nd) (qb_cons (ds1 := [0, 0, 0, 0, 1, 0, 0, 0, 0, 0]) (qs_app 4 (qe_fun F_law_minus hr px_takes (by rfl) (qa_cons (qe_tup (qa_cons (qe_op o_sub (qe_rd (qe_op o_add (qe_rd (qe_op o_div (qe_rd (qe_ix (qe_rd (qe_v 9)) (qe_rd qe_int))) (qe_rd (qe_ix (qe_rd (qe_v 9)) (qe_rd qe_int))))) (qe_rd (qe_op o_mod (qe_rd (qe_op o_div (qe_rd (qe_ix (qe_rd (qe_v 1)) (qe_rd qe_int))) (qe_rd qe_int))) (qe_rd qe_int))))) (qe_rd qe_int)) (qa_cons qe_int qa_nil))) (qa_cons (qe_v 9) qa_nil)))) (qb_frz 4 (show QB _ [0, 0, 0, 0, 0, 0, 0, 0, 0, 0] _ _ _ from (qb_cons (ds1 := [0, 0, 0, 0, 0, 0, 0, 0, 0, 0]) (qs_ret (d := 0) rfl (qe_v 4)) qb_nil)))))))))))
theorem sc_law_due : FnScope N_law_due ps_law_due (defScope s_law_due) := ⟨rfl, rfl, rfl, by decide +kernel, rfl, by decide +kernel, by decide +kernel⟩
theorem ok_law_due {f : Addr} {fd : FuncData} (T : Tx mg) (Fu : L2.Fun K "_law_due" "_law_due" s_law_due f fd) (b : Binds K fd ps_law_due []) (hm : mg "_law_due" = some (.ref f)) (F_law_minus : Fn P w K mg base "_law_minus" 2 ps_law_minus 0 d_law_minus) (F_law_floor : Fn P w K mg base "_law_floor" 1 ps_law_floor 0 d_law_floor) (F_law_total : Fn P w K mg base "_law_total" 3 ps_law_total 0 d_law_total)  : Fn P w K mg base "_law_due" 4 ps_law_due 0 d_law_due :=
  fn_mk (ds := [0, 0, 0, 0, 0, 0, 0, 0, 0]) (fb := b_law_due) Fu sc_law_due b hm 0 (zds 9) fun cd A outer s H F E hr => by
    have nd := (sc_law_due).nd
    have hu : (A.deeper (PyProof.Rows.envOfC "_law_due" (defScope s_law_due) s.heap.objs.size f cd)).units + 64 < cLine := hr.units
    have hu5 : (A.deeper (PyProof.Rows.envOfC "_law_due" (defScope s_law_due) s.heap.objs.size f cd)).units + 65 < cLine := by have := hr.un; omega
    have F_law_minus := F_law_minus.mono (k := 3) (by omega)
    have F_law_floor := F_law_floor.mono (k := 3) (by omega)
    have F_law_total := F_law_total.mono (k := 3) (by omega)
    exact (qb_cons (ds1 := [0, 0, 0, 0, 0, 0, 0, 0, 0]) (qs_setLc 1 (d := 0) (by omega) (own := [("one", 2)]) rfl nd (qi_e (qe_v 0)) (blkOk_by (N := N_law_due) (sc := defScope s_law_due) (by decide +kernel)) (by decide) (fun _ _ _ _ _ => (qg_n 2 (hN := nd))) (fun _ _ _ _ _ => qts_nil) (fun _ _ _ _ _ => (qe_fun F_law_minus hr takes0 (by rfl) (qa_cons (qe_v 2) (qa_cons (qe_tup (qa_cons (qe_fun F_law_floor hr takes0 (by rfl) (qa_cons (qe_v 2) qa_nil)) (qa_cons qe_int qa_nil))) qa_nil)))) (sw_true rfl rfl rfl (by decide +kernel))) (qb_cons (ds1 := [0, 0, 0, 0, 0, 0, 0, 0, 0]) (qs_set 3 (qe_ix (qe_rd (qe_fun F_law_total hr px_takes (by rfl) (qa_cons (qe_v 1) qa_nil))) (qe_rd qe_int)) nd) (qb_cons (ds1 := [0, 0, 0, 0, 1, 0, 0, 0, 0]) (qs_set 4 (qe_lst (d := 1) (by omega) qa_nil) nd) (qb_cons (ds1 := [0, 0, 0, 0, 1, 0, 0, 0, 0]) (qs_for px_passes rfl (qi_range1 (by rfl) T.z_range (qr_cons (qe_rd (qe_callB c_len (by rfl) T.z_len b_len (qr_cons (qe_rd (qe_v 0)) qr_nil))) qr_nil)) (qg_n 5 (hN := nd)) (qb_cons (ds1 := [0, 0, 0, 0, 1, 0, 0, 0, 0]) (qs_set 6 qe_int nd) (qb_cons (ds1 := [0, 0, 0, 0, 1, 0, 0, 0, 0]) (qs_for px_passes rfl (qi_range1 (by rfl) T.z_range (qr_cons (qe_rd (qe_callB c_len (by rfl) T.z_len b_len (qr_cons (qe_rd (qe_v 0)) qr_nil))) qr_nil)) (qg_n 7 (hN := nd)) (qb_cons (ds1 := [0, 0, 0, 0, 1, 0, 0, 0, 0]) (qs_set 8 (qe_op o_sub (qe_rd (qe_op o_mul (qe_rd (qe_ix (qe_rd (qe_ix (qe_rd (qe_v 1)) (qe_rd (qe_v 7)))) (qe_rd qe_int))) (qe_rd (qe_ix (qe_rd (qe_ix (qe_rd (qe_v 1)) (qe_rd (qe_v 5)))) (qe_rd qe_int))))) (qe_rd (qe_op o_mul (qe_rd (qe_ix (qe_rd (qe_ix (qe_rd (qe_v 1)) (qe_rd (qe_v 5)))) (qe_rd qe_int))) (qe_rd (qe_ix (qe_rd (qe_ix (qe_rd (qe_v 1)) (qe_rd (qe_v 7)))) (qe_rd qe_int)))))) nd) (qb_cons (ds1 := [0, 0, 0, 0, 1, 0, 0, 0, 0]) (qs_if (ds' := [0, 0, 0, 0, 1, 0, 0, 0, 0]) (qw_or (qt_cmp o_gt (qe_rd (qe_v 8)) (qe_rd qe_int) (nomark _)) (qw_or1 (qw_and (qt_cmp (o_eq hu) (qe_rd (qe_v 8)) (qe_rd qe_int) (nomark _)) (qw_and1 (qt_cmp o_lt (qe_rd (qe_v 7)) (qe_rd (qe_v 5)) (nomark _)))).t)).t (qb_cons (ds1 := [0, 0, 0, 0, 1, 0, 0, 0, 0]) (qs_set 6 (qe_op o_add (qe_rd (qe_v 6)) (qe_rd qe_int)) nd) qb_nil) qb_nil) qb_nil))) (qb_cons (ds1 := [0, 0, 0, 0, 1, 0, 0, 0, 0]) (qs_app 4 (qe_op o_add (qe_rd (qe_fun F_law_floor hr px_takes (by rfl) (qa_cons (qe_ix (qe_rd (qe_v 0)) (qe_rd (qe_v 5))) qa_nil))) (qe_rd (qe_callT c_int (by rfl) T.z_int b_int (qr_cons (qe_rd (qe_cmp o_lt (qe_rd (qe_v 6)) (qe_rd (qe_v 3)) (nomark _))) qr_nil))))) qb_nil)))) (qb_frz 4 (show QB _ [0, 0, 0, 0, 0, 0, 0, 0, 0] _ _ _ from (qb_cons (ds1 := [0, 0, 0, 0, 0, 0, 0, 0, 0]) (qs_ret (d := 0) rfl (qe_v 4)) qb_nil)))))))
theorem sc_law_worst : FnScope N_law_worst ps_law_worst (defScope s_law_worst) := ⟨rfl, rfl, rfl, by decide +kernel, rfl, by decide +kernel, by decide +kernel⟩
theorem ok_law_worst {f : Addr} {fd : FuncData} (T : Tx mg) (Fu : L2.Fun K "_law_worst" "_law_worst" s_law_worst f fd) (b : Binds K fd ps_law_worst []) (hm : mg "_law_worst" = some (.ref f)) (F_law_minus : Fn P w K mg base "_law_minus" 2 ps_law_minus 0 d_law_minus)  : Fn P w K mg base "_law_worst" 3 ps_law_worst 0 d_law_worst :=
  fn_mk (ds := [0, 0, 0, 0, 0]) (fb := b_law_worst) Fu sc_law_worst b hm 0 (zds 5) fun cd A outer s H F E hr => by
    have nd := (sc_law_worst).nd
    have hu : (A.deeper (PyProof.Rows.envOfC "_law_worst" (defScope s_law_worst) s.heap.objs.size f cd)).units + 64 < cLine := hr.units
    have hu5 : (A.deeper (PyProof.Rows.envOfC "_law_worst" (defScope s_law_worst) s.heap.objs.size f cd)).units + 65 < cLine := by have := hr.un; omega
    have F_law_minus := F_law_minus.mono (k := 2) (by omega)
    exact (qb_cons (ds1 := [0, 0, 0, 0, 0]) (qs_set 2 (qe_tup (qa_cons qe_int (qa_cons qe_int qa_nil))) nd) (qb_cons (ds1 := [0, 0, 0, 0, 0]) (qs_for px_passes rfl (qi_range1 (by rfl) T.z_range (qr_cons (qe_rd (qe_callB c_len (by rfl) T.z_len b_len (qr_cons (qe_rd (qe_v 0)) qr_nil))) qr_nil)) (qg_n 3 (hN := nd)) (qb_cons (ds1 := [0, 0, 0, 0, 0]) (qs_set 4 (qe_fun F_law_minus hr px_takes (by rfl) (qa_cons (qe_ix (qe_rd (qe_v 0)) (qe_rd (qe_v 3))) (qa_cons (qe_tup (qa_cons (qe_ix (qe_rd (qe_v 1)) (qe_rd (qe_v 3))) (qa_cons qe_int qa_nil))) qa_nil))) nd) (qb_cons (ds1 := [0, 0, 0, 0, 0]) (qs_set 4 (qe_tup (qa_cons (qe_callB c_abs (by rfl) T.z_abs b_abs (qr_cons (qe_rd (qe_ix (qe_rd (qe_v 4)) (qe_rd qe_int))) qr_nil)) (qa_cons (qe_ix (qe_rd (qe_v 4)) (qe_rd qe_int)) qa_nil))) nd) (qb_cons (ds1 := [0, 0, 0, 0, 0]) (qs_if (ds' := [0, 0, 0, 0, 0]) (qt_cmp o_gt (qe_rd (qe_op o_mul (qe_rd (qe_ix (qe_rd (qe_v 4)) (qe_rd qe_int))) (qe_rd (qe_ix (qe_rd (qe_v 2)) (qe_rd qe_int))))) (qe_rd (qe_op o_mul (qe_rd (qe_ix (qe_rd (qe_v 2)) (qe_rd qe_int))) (qe_rd (qe_ix (qe_rd (qe_v 4)) (qe_rd qe_int))))) (nomark _)) (qb_cons (ds1 := [0, 0, 0, 0, 0]) (qs_set 2 (qe_v 4) nd) qb_nil) qb_nil) qb_nil)))) (qb_cons (ds1 := [0, 0, 0, 0, 0]) (qs_ret (d := 0) rfl (qe_v 2)) qb_nil)))
theorem sc_law_near : FnScope N_law_near ps_law_near (defScope s_law_near) := ⟨rfl, rfl, rfl, by decide +kernel, rfl, by decide +kernel, by decide +kernel⟩
theorem ok_law_near {f : Addr} {fd : FuncData} (T : Tx mg) (Fu : L2.Fun K "_law_near" "_law_near" s_law_near f fd) (b : Binds K fd ps_law_near []) (hm : mg "_law_near" = some (.ref f)) (F_law_floor : Fn P w K mg base "_law_floor" 1 ps_law_floor 0 d_law_floor)  : Fn P w K mg base "_law_near" 2 ps_law_near 0 d_law_near :=
  fn_mk (ds := [0, 0, 0, 0, 0, 0, 0]) (fb := b_law_near) Fu sc_law_near b hm 0 (zds 7) fun cd A outer s H F E hr => by
    have nd := (sc_law_near).nd
    have hu : (A.deeper (PyProof.Rows.envOfC "_law_near" (defScope s_law_near) s.heap.objs.size f cd)).units + 64 < cLine := hr.units
    have hu5 : (A.deeper (PyProof.Rows.envOfC "_law_near" (defScope s_law_near) s.heap.objs.size f cd)).units + 65 < cLine := by have := hr.un; omega
    have F_law_floor := F_law_floor.mono (k := 1) (by omega)
    exact (qb_cons (ds1 := [0, 0, 0, 0, 0, 0, 0]) (qs_set 2 (qe_lst (d := 0) (by omega) (qa_cons (qe_lst (d := 0) (by omega) qa_nil) qa_nil)) nd) (qb_cons (ds1 := [0, 0, 0, 0, 0, 0, 0]) (qs_for px_passes rfl (qi_e (qe_sl (d := 0) (by omega) (qe_rd (qe_v 0)) (qo_some qe_int) (qo_some qe_int))) (qg_n 3 (hN := nd)) (qb_cons (ds1 := [0, 0, 0, 0, 0, 0, 0]) (qs_set 4 (qe_lst (d := 0) (by omega) qa_nil) nd) (qb_cons (ds1 := [0, 0, 0, 0, 0, 0, 0]) (qs_for px_passes rfl (qi_e (qe_v 2)) (qg_n 5 (hN := nd)) (qb_cons (ds1 := [0, 0, 0, 0, 0, 0, 0]) (qs_set 4 (qe_op o_add (qe_rd (qe_v 4)) (qe_rd (qe_lc (d := 0) (by omega) (own := [("k", 6)]) rfl nd (qi_e (qe_lst (d := 0) (by omega) (qa_cons (qe_op o_sub (qe_rd qe_int) (qe_rd qe_int)) (qa_cons qe_int (qa_cons qe_int (qa_cons qe_int qa_nil)))))) (blkOk_by (N := N_law_near) (sc := defScope s_law_near) (by decide +kernel)) (by decide) (fun _ _ _ _ _ => (qg_n 6 (hN := nd))) (fun _ _ _ _ _ => qts_nil) (fun _ _ _ _ _ => (qe_op o_add (qe_rd (qe_v 5)) (qe_rd (qe_lst (d := 0) (by omega) (qa_cons (qe_op o_add (qe_rd (qe_fun F_law_floor hr takes0 (by rfl) (qa_cons (qe_v 3) qa_nil))) (qe_rd (qe_v 6))) qa_nil)))))))) nd) qb_nil)) (qb_cons (ds1 := [0, 0, 0, 0, 0, 0, 0]) (qs_set 2 (qe_v 4) nd) qb_nil)))) (qb_cons (ds1 := [0, 0, 0, 0, 0, 0, 0]) (qs_ret (d := 0) rfl (qe_lc (d := 0) (by omega) (own := [("row", 5)]) rfl nd (qi_e (qe_v 2)) (blkOk_by (N := N_law_near) (sc := defScope s_law_near) (by decide +kernel)) (by decide) (fun _ _ _ _ _ => (qg_n 5 (hN := nd))) (fun _ _ _ _ _ => qts_nil) (fun _ _ _ _ _ => (qe_op o_add (qe_rd (qe_v 5)) (qe_rd (qe_lst (d := 0) (by omega) (qa_cons (qe_op o_sub (qe_rd (qe_v 1)) (qe_rd (qe_callB (c_sum rfl) (by rfl) T.z_sum b_sum (qr_cons (qe_rd (qe_v 5)) qr_nil)))) qa_nil))))))) qb_nil)))
theorem sc_law : FnScope N_law ps_law (defScope s_law) := ⟨rfl, rfl, rfl, by decide +kernel, rfl, by decide +kernel, by decide +kernel⟩
theorem okf_law {f : Addr} {fd : FuncData} (T : Tx mg) (Fu : L2.Fun K "law" "law" s_law f fd) (F_law_amounts : Fn P w K mg base "_law_amounts" 4 ps_law_amounts 0 d_law_amounts) (F_law_copy : Fn P w K mg base "_law_copy" 15 ps_law_copy 0 d_law_copy) (F_law_due : Fn P w K mg base "_law_due" 4 ps_law_due 0 d_law_due) (F_whole_cents : Fn P w K mg base "whole_cents" 4 ps_whole_cents 0 d_whole_cents) (F_law_total : Fn P w K mg base "_law_total" 3 ps_law_total 0 d_law_total) (F_law_like : Fn P w K mg base "_law_like" 15 ps_law_like 0 d_law_like) (F_law_rounds : Fn P w K mg base "_law_rounds" 1 ps_law_rounds 0 d_law_rounds) (F_law_worst : Fn P w K mg base "_law_worst" 3 ps_law_worst 0 d_law_worst) (F_greatest_difference : Fn P w K mg base "greatest_difference" 4 ps_greatest_difference 0 d_greatest_difference) (F_law_draws : Fn P w K mg base "_law_draws" 1 ps_law_draws 0 d_law_draws) (F_law_near : Fn P w K mg base "_law_near" 2 ps_law_near 0 d_law_near)  : FnOk P w K mg base (L2.CX P w) 16 f fd ps_law (spD K mg 1 0 d_law) :=
  fnok_mk (ds := [0, 0, 0, 0, 0, 0, 0, 0, 0, 0, 0]) (fb := b_law) Fu sc_law 0 (zds 11) fun cd A outer s H F E hr => by
    have nd := (sc_law).nd
    have hu : (A.deeper (PyProof.Rows.envOfC "law" (defScope s_law) s.heap.objs.size f cd)).units + 64 < cLine := hr.units
    have hu5 : (A.deeper (PyProof.Rows.envOfC "law" (defScope s_law) s.heap.objs.size f cd)).units + 65 < cLine := by have := hr.un; omega
    have F_law_amounts := F_law_amounts.mono (k := 15) (by omega)
    have F_law_copy := F_law_copy.mono (k := 15) (by omega)
    have F_law_due := F_law_due.mono (k := 15) (by omega)
    have F_whole_cents := F_whole_cents.mono (k := 15) (by omega)
    have F_law_total := F_law_total.mono (k := 15) (by omega)
    have F_law_like := F_law_like.mono (k := 15) (by omega)
    have F_law_rounds := F_law_rounds.mono (k := 15) (by omega)
    have F_law_worst := F_law_worst.mono (k := 15) (by omega)
    have F_greatest_difference := F_greatest_difference.mono (k := 15) (by omega)
    have F_law_draws := F_law_draws.mono (k := 15) (by omega)
    have F_law_near := F_law_near.mono (k := 15) (by omega)
    exact (qb_cons (ds1 := [0, 0, 0, 0, 0, 0, 0, 0, 0, 0, 0]) (qs_set 1 (qe_fun F_law_amounts hr px_takes (by rfl) (qa_cons (qe_v 0) qa_nil)) nd) (qb_cons (ds1 := [0, 0, 0, 0, 0, 0, 0, 0, 0, 0, 0]) (qs_set 2 (qe_fun F_law_copy hr px_takes (by rfl) (qa_cons (qe_v 1) qa_nil)) nd) (qb_cons (ds1 := [0, 0, 0, 0, 0, 0, 0, 0, 0, 0, 0]) (qs_set 3 (qe_fun F_law_due hr px_takes (by rfl) (qa_cons (qe_v 1) qa_nil)) nd) (qb_cons (ds1 := [0, 0, 0, 0, 0, 0, 0, 0, 0, 0, 0]) (qs_set 4 (qe_fun F_whole_cents hr px_takes (by rfl) (qa_cons (qe_v 1) qa_nil)) nd) (qb_cons (ds1 := [0, 0, 0, 0, 0, 0, 0, 0, 0, 0, 0]) (qs_if (ds' := [0, 0, 0, 0, 0, 0, 0, 0, 0, 0, 0]) (qw_or (qt_not (qt_tru (qe_rd (qe_fun F_law_like hr px_takes (by rfl) (qa_cons (qe_v 4) (qa_cons (qe_v 3) qa_nil)))))) (qw_or (qt_not (qt_tru (qe_rd (qe_fun F_law_like hr px_takes (by rfl) (qa_cons (qe_v 1) (qa_cons (qe_v 2) qa_nil)))))) (qw_or1 (qt_cmp (o_ne hu) (qe_rd (qe_tup (qa_cons (qe_callB (c_sum rfl) (by rfl) T.z_sum b_sum (qr_cons (qe_rd (qe_v 3)) qr_nil)) (qa_cons qe_int qa_nil)))) (qe_rd (qe_fun F_law_total hr px_takes (by rfl) (qa_cons (qe_v 1) qa_nil))) (nomark _))))).t (qb_cons (ds1 := [0, 0, 0, 0, 0, 0, 0, 0, 0, 0, 0]) (qs_ret (d := 0) rfl qe_bl) qb_nil) qb_nil) (qb_cons (ds1 := [0, 0, 0, 0, 0, 0, 0, 0, 0, 0, 0]) (qs_if (ds' := [0, 0, 0, 0, 0, 0, 0, 0, 0, 0, 0]) (qt_cmp o_gt (qe_rd (qe_callB c_len (by rfl) T.z_len b_len (qr_cons (qe_rd (qe_lc (d := 0) (by omega) (own := [("k", 5)]) rfl nd (qi_range1 (by rfl) T.z_range (qr_cons (qe_rd (qe_callB c_len (by rfl) T.z_len b_len (qr_cons (qe_rd (qe_v 3)) qr_nil))) qr_nil)) (blkOk_by (N := N_law) (sc := defScope s_law) (by decide +kernel)) (by decide) (fun _ _ _ _ _ => (qg_n 5 (hN := nd))) (fun _ _ _ _ _ => (qts_one (qt_not (qt_tru (qe_rd (qe_fun F_law_rounds hr takes0 (by rfl) (qa_cons (qe_ix (qe_rd (qe_v 3)) (qe_rd (qe_v 5))) (qa_cons (qe_ix (qe_rd (qe_v 1)) (qe_rd (qe_v 5))) qa_nil)))))))) (fun _ _ _ _ _ => (qe_v 5)))) qr_nil))) (qe_rd qe_int) (nomark _)) (qb_cons (ds1 := [0, 0, 0, 0, 0, 0, 0, 0, 0, 0, 0]) (qs_ret (d := 0) rfl qe_bl) qb_nil) qb_nil) (qb_cons (ds1 := [0, 0, 0, 0, 0, 0, 0, 0, 0, 0, 0]) (qs_set 6 (qe_fun F_law_worst hr px_takes (by rfl) (qa_cons (qe_v 1) (qa_cons (qe_v 3) qa_nil))) nd) (qb_cons (ds1 := [0, 0, 0, 0, 0, 0, 0, 0, 0, 0, 0]) (qs_if (ds' := [0, 0, 0, 0, 0, 0, 0, 0, 0, 0, 0]) (qt_not (qt_tru (qe_rd (qe_fun F_law_like hr px_takes (by rfl) (qa_cons (qe_fun F_greatest_difference hr px_takes (by rfl) (qa_cons (qe_v 1) (qa_cons (qe_v 3) qa_nil))) (qa_cons (qe_v 6) qa_nil)))))) (qb_cons (ds1 := [0, 0, 0, 0, 0, 0, 0, 0, 0, 0, 0]) (qs_ret (d := 0) rfl qe_bl) qb_nil) qb_nil) (qb_cons (ds1 := [0, 0, 0, 0, 0, 0, 0, 0, 0, 0, 0]) (qs_set 7 (qe_fun F_law_draws hr px_takes (by rfl) (qa_cons (qe_v 0) (qa_cons qe_int (qa_cons qe_int qa_nil)))) nd) (qb_cons (ds1 := [0, 0, 0, 0, 0, 0, 0, 0, 0, 0, 0]) (qs_setLc 8 (d := 0) (by omega) (own := [("k", 5)]) rfl nd (qi_range1 (by rfl) T.z_range (qr_cons (qe_rd (qe_callB c_len (by rfl) T.z_len b_len (qr_cons (qe_rd (qe_v 3)) qr_nil))) qr_nil)) (blkOk_by (N := N_law) (sc := defScope s_law) (by decide +kernel)) (by decide) (fun _ _ _ _ _ => (qg_n 5 (hN := nd))) (fun _ _ _ _ _ => qts_nil) (fun _ _ _ _ _ => (qe_op o_sub (qe_rd (qe_op o_add (qe_rd (qe_ix (qe_rd (qe_v 3)) (qe_rd (qe_v 5)))) (qe_rd (qe_op o_mod (qe_rd (qe_ix (qe_rd (qe_v 7)) (qe_rd (qe_v 5)))) (qe_rd qe_int))))) (qe_rd qe_int))) (sw_true rfl rfl rfl (by decide +kernel))) (qb_cons (ds1 := [0, 0, 0, 0, 0, 0, 0, 0, 0, 0, 0]) (qs_if (ds' := [0, 0, 0, 0, 0, 0, 0, 0, 0, 0, 0]) (qt_not (qt_tru (qe_rd (qe_fun F_law_like hr px_takes (by rfl) (qa_cons (qe_fun F_greatest_difference hr px_takes (by rfl) (qa_cons (qe_v 1) (qa_cons (qe_v 8) qa_nil))) (qa_cons (qe_fun F_law_worst hr px_takes (by rfl) (qa_cons (qe_v 1) (qa_cons (qe_v 8) qa_nil))) qa_nil)))))) (qb_cons (ds1 := [0, 0, 0, 0, 0, 0, 0, 0, 0, 0, 0]) (qs_ret (d := 0) rfl qe_bl) qb_nil) qb_nil) (qb_cons (ds1 := [0, 0, 0, 0, 0, 0, 0, 0, 0, 0, 0]) (qs_if (ds' := [0, 0, 0, 0, 0, 0, 0, 0, 0, 0, 0]) (qw_and (qt_cmp o_le (qe_rd (qe_callB c_len (by rfl) T.z_len b_len (qr_cons (qe_rd (qe_v 1)) qr_nil))) (qe_rd qe_int) (nomark _)) (qw_and1 (qt_cmp o_gt (qe_rd (qe_callB c_len (by rfl) T.z_len b_len (qr_cons (qe_rd (qe_v 1)) qr_nil))) (qe_rd qe_int) (nomark _)))).t (qb_cons (ds1 := [0, 0, 0, 0, 0, 0, 0, 0, 0, 0, 0]) (qs_set 9 (qe_sl (d := 0) (by omega) (qe_rd (qe_v 1)) (qo_some qe_int) (qo_some (qe_op o_sub (qe_rd (qe_callB c_len (by rfl) T.z_len b_len (qr_cons (qe_rd (qe_v 1)) qr_nil))) (qe_rd qe_int)))) nd) (qb_cons (ds1 := [0, 0, 0, 0, 0, 0, 0, 0, 0, 0, 0]) (qs_for px_passes rfl (qi_e (qe_fun F_law_near hr px_takes (by rfl) (qa_cons (qe_v 9) (qa_cons (qe_callB (c_sum rfl) (by rfl) T.z_sum b_sum (qr_cons (qe_rd (qe_v 3)) qr_nil)) qa_nil)))) (qg_n 10 (hN := nd)) (qb_cons (ds1 := [0, 0, 0, 0, 0, 0, 0, 0, 0, 0, 0]) (qs_if (ds' := [0, 0, 0, 0, 0, 0, 0, 0, 0, 0, 0]) (qt_cmp o_lt (qe_rd (qe_op o_mul (qe_rd (qe_ix (qe_rd (qe_fun F_law_worst hr px_takes (by rfl) (qa_cons (qe_v 1) (qa_cons (qe_v 10) qa_nil)))) (qe_rd qe_int))) (qe_rd (qe_ix (qe_rd (qe_v 6)) (qe_rd qe_int))))) (qe_rd (qe_op o_mul (qe_rd (qe_ix (qe_rd (qe_v 6)) (qe_rd qe_int))) (qe_rd (qe_ix (qe_rd (qe_fun F_law_worst hr px_takes (by rfl) (qa_cons (qe_v 1) (qa_cons (qe_v 10) qa_nil)))) (qe_rd qe_int))))) (nomark _)) (qb_cons (ds1 := [0, 0, 0, 0, 0, 0, 0, 0, 0, 0, 0]) (qs_ret (d := 0) rfl qe_bl) qb_nil) qb_nil) (qb_cons (ds1 := [0, 0, 0, 0, 0, 0, 0, 0, 0, 0, 0]) (qs_if (ds' := [0, 0, 0, 0, 0, 0, 0, 0, 0, 0, 0]) (qt_not (qt_tru (qe_rd (qe_fun F_law_like hr px_takes (by rfl) (qa_cons (qe_fun F_greatest_difference hr px_takes (by rfl) (qa_cons (qe_v 1) (qa_cons (qe_v 10) qa_nil))) (qa_cons (qe_fun F_law_worst hr px_takes (by rfl) (qa_cons (qe_v 1) (qa_cons (qe_v 10) qa_nil))) qa_nil)))))) (qb_cons (ds1 := [0, 0, 0, 0, 0, 0, 0, 0, 0, 0, 0]) (qs_ret (d := 0) rfl qe_bl) qb_nil) qb_nil) qb_nil))) qb_nil)) qb_nil) (qb_cons (ds1 := [0, 0, 0, 0, 0, 0, 0, 0, 0, 0, 0]) (qs_ret (d := 0) rfl (qe_and (qe_fun F_law_like hr px_takes (by rfl) (qa_cons (qe_fun F_whole_cents hr px_takes (by rfl) (qa_cons (qe_v 1) qa_nil)) (qa_cons (qe_v 3) qa_nil))) (qe_one (qe_fun F_law_like hr px_takes (by rfl) (qa_cons (qe_v 1) (qa_cons (qe_v 2) qa_nil)))))) qb_nil)))))))))))))
end
section
open PySem PySem.W PyProof.Rows L2 Pw
theorem all_mk {l : PySem.W.OpenLaw} {w : World} {K : PySem.W.Frag} {h : Heap} {mg : Str → Option Value} {fa : Addr} (X : K.In h) (G : h.Ns mainGlobals mg) (hfa : mg "law" = some (.ref fa))
    {f0 : Addr} {od0 an0 : Option Addr} {sl0 : Array (Option Value)} {oc0 kV0 dc0 pm0 cd0 ct0 : Value}
    {f1 : Addr} {od1 an1 : Option Addr} {sl1 : Array (Option Value)} {oc1 kV1 dc1 pm1 cd1 ct1 : Value}
    {f2 : Addr} {od2 an2 : Option Addr} {sl2 : Array (Option Value)} {oc2 kV2 dc2 pm2 cd2 ct2 : Value}
    {f3 : Addr} {od3 an3 : Option Addr} {sl3 : Array (Option Value)} {oc3 kV3 dc3 pm3 cd3 ct3 : Value}
    {f4 : Addr} {od4 an4 : Option Addr} {sl4 : Array (Option Value)} {oc4 kV4 dc4 pm4 cd4 ct4 : Value}
    {f5 : Addr} {od5 an5 : Option Addr} {sl5 : Array (Option Value)} {oc5 kV5 dc5 pm5 cd5 ct5 : Value}
    {f6 : Addr} {od6 an6 : Option Addr} {sl6 : Array (Option Value)} {oc6 kV6 dc6 pm6 cd6 ct6 : Value}
    {f7 : Addr} {od7 an7 : Option Addr} {sl7 : Array (Option Value)} {oc7 kV7 dc7 pm7 cd7 ct7 : Value}
    {f8 : Addr} {od8 an8 : Option Addr} {sl8 : Array (Option Value)} {oc8 kV8 dc8 pm8 cd8 ct8 : Value}
    {f9 : Addr} {od9 an9 : Option Addr} {sl9 : Array (Option Value)} {oc9 kV9 dc9 pm9 cd9 ct9 : Value}
    {f10 : Addr} {od10 an10 : Option Addr} {sl10 : Array (Option Value)} {oc10 kV10 dc10 pm10 cd10 ct10 : Value}
    {f11 : Addr} {od11 an11 : Option Addr} {sl11 : Array (Option Value)} {oc11 kV11 dc11 pm11 cd11 ct11 : Value}
    {f12 : Addr} {od12 an12 : Option Addr} {sl12 : Array (Option Value)} {oc12 kV12 dc12 pm12 cd12 ct12 : Value}
    {f13 : Addr} {od13 an13 : Option Addr} {sl13 : Array (Option Value)} {oc13 kV13 dc13 pm13 cd13 ct13 : Value}
    {f14 : Addr} {od14 an14 : Option Addr} {sl14 : Array (Option Value)} {oc14 kV14 dc14 pm14 cd14 ct14 : Value}
    {f15 : Addr} {od15 an15 : Option Addr} {sl15 : Array (Option Value)} {oc15 kV15 dc15 pm15 cd15 ct15 : Value}
    {f16 : Addr} {od16 an16 : Option Addr} {sl16 : Array (Option Value)} {oc16 kV16 dc16 pm16 cd16 ct16 : Value}
    {f17 : Addr} {od17 an17 : Option Addr} {sl17 : Array (Option Value)} {oc17 kV17 dc17 pm17 cd17 ct17 : Value}
    {f18 : Addr} {od18 an18 : Option Addr} {sl18 : Array (Option Value)} {oc18 kV18 dc18 pm18 cd18 ct18 : Value}
    {f19 : Addr} {od19 an19 : Option Addr} {sl19 : Array (Option Value)} {oc19 kV19 dc19 pm19 cd19 ct19 : Value}
    {f20 : Addr} {od20 an20 : Option Addr} {sl20 : Array (Option Value)} {oc20 kV20 dc20 pm20 cd20 ct20 : Value}
    {f21 : Addr} {od21 an21 : Option Addr} {sl21 : Array (Option Value)} {oc21 kV21 dc21 pm21 cd21 ct21 : Value}
    {f22 : Addr} {od22 an22 : Option Addr} {sl22 : Array (Option Value)} {oc22 kV22 dc22 pm22 cd22 ct22 : Value}
    {f23 : Addr} {od23 an23 : Option Addr} {sl23 : Array (Option Value)} {oc23 kV23 dc23 pm23 cd23 ct23 : Value}
    {f24 : Addr} {od24 an24 : Option Addr} {sl24 : Array (Option Value)} {oc24 kV24 dc24 pm24 cd24 ct24 : Value}
    {f25 : Addr} {od25 an25 : Option Addr} {sl25 : Array (Option Value)} {oc25 kV25 dc25 pm25 cd25 ct25 : Value}
    {f26 : Addr} {od26 an26 : Option Addr} {sl26 : Array (Option Value)} {oc26 kV26 dc26 pm26 cd26 ct26 : Value}
    {tc0_0 tc0_1 : Tok}
    {ac0 : Addr} {dd0 : Option Addr} {nn0 : Nat} {sc0 : Array (Option Value)}
    (a0 : PySem.W.nsIn K mainGlobals "fraction" = some (some (.ref f0))) (l0 : K.lookup f0 = some ⟨oc0, od0, .func (PySem.W.fnOf "fraction" "fraction" (defArgs s_fraction) (defBody s_fraction) (defScope s_fraction) .none kV0 dc0 pm0 an0 cd0 ct0), sl0⟩) (c0 : PySem.W.codeIn K cd0 "fraction" = true) (k0 : PySem.W.keepIn K (.ref f0) = true)
    (a1 : PySem.W.nsIn K mainGlobals "whole" = some (some (.ref f1))) (l1 : K.lookup f1 = some ⟨oc1, od1, .func (PySem.W.fnOf "whole" "whole" (defArgs s_whole) (defBody s_whole) (defScope s_whole) .none kV1 dc1 pm1 an1 cd1 ct1), sl1⟩) (c1 : PySem.W.codeIn K cd1 "whole" = true) (k1 : PySem.W.keepIn K (.ref f1) = true)
    (a2 : PySem.W.nsIn K mainGlobals "plus" = some (some (.ref f2))) (l2 : K.lookup f2 = some ⟨oc2, od2, .func (PySem.W.fnOf "plus" "plus" (defArgs s_plus) (defBody s_plus) (defScope s_plus) .none kV2 dc2 pm2 an2 cd2 ct2), sl2⟩) (c2 : PySem.W.codeIn K cd2 "plus" = true) (k2 : PySem.W.keepIn K (.ref f2) = true)
    (a3 : PySem.W.nsIn K mainGlobals "minus" = some (some (.ref f3))) (l3 : K.lookup f3 = some ⟨oc3, od3, .func (PySem.W.fnOf "minus" "minus" (defArgs s_minus) (defBody s_minus) (defScope s_minus) .none kV3 dc3 pm3 an3 cd3 ct3), sl3⟩) (c3 : PySem.W.codeIn K cd3 "minus" = true) (k3 : PySem.W.keepIn K (.ref f3) = true)
    (a4 : PySem.W.nsIn K mainGlobals "is_less" = some (some (.ref f4))) (l4 : K.lookup f4 = some ⟨oc4, od4, .func (PySem.W.fnOf "is_less" "is_less" (defArgs s_is_less) (defBody s_is_less) (defScope s_is_less) .none kV4 dc4 pm4 an4 cd4 ct4), sl4⟩) (c4 : PySem.W.codeIn K cd4 "is_less" = true) (k4 : PySem.W.keepIn K (.ref f4) = true)
    (a5 : PySem.W.nsIn K mainGlobals "sum_of" = some (some (.ref f5))) (l5 : K.lookup f5 = some ⟨oc5, od5, .func (PySem.W.fnOf "sum_of" "sum_of" (defArgs s_sum_of) (defBody s_sum_of) (defScope s_sum_of) .none kV5 dc5 pm5 an5 cd5 ct5), sl5⟩) (c5 : PySem.W.codeIn K cd5 "sum_of" = true) (k5 : PySem.W.keepIn K (.ref f5) = true)
    (a6 : PySem.W.nsIn K mainGlobals "greater" = some (some (.ref f6))) (l6 : K.lookup f6 = some ⟨oc6, od6, .func (PySem.W.fnOf "greater" "greater" (defArgs s_greater) (defBody s_greater) (defScope s_greater) .none kV6 dc6 pm6 an6 cd6 ct6), sl6⟩) (c6 : PySem.W.codeIn K cd6 "greater" = true) (k6 : PySem.W.keepIn K (.ref f6) = true)
    (a7 : PySem.W.nsIn K mainGlobals "floor_of" = some (some (.ref f7))) (l7 : K.lookup f7 = some ⟨oc7, od7, .func (PySem.W.fnOf "floor_of" "floor_of" (defArgs s_floor_of) (defBody s_floor_of) (defScope s_floor_of) .none kV7 dc7 pm7 an7 cd7 ct7), sl7⟩) (c7 : PySem.W.codeIn K cd7 "floor_of" = true) (k7 : PySem.W.keepIn K (.ref f7) = true)
    (a8 : PySem.W.nsIn K mainGlobals "rest_of" = some (some (.ref f8))) (l8 : K.lookup f8 = some ⟨oc8, od8, .func (PySem.W.fnOf "rest_of" "rest_of" (defArgs s_rest_of) (defBody s_rest_of) (defScope s_rest_of) .none kV8 dc8 pm8 an8 cd8 ct8), sl8⟩) (c8 : PySem.W.codeIn K cd8 "rest_of" = true) (k8 : PySem.W.keepIn K (.ref f8) = true)
    (a9 : PySem.W.nsIn K mainGlobals "place_of_greatest" = some (some (.ref f9))) (l9 : K.lookup f9 = some ⟨oc9, od9, .func (PySem.W.fnOf "place_of_greatest" "place_of_greatest" (defArgs s_place_of_greatest) (defBody s_place_of_greatest) (defScope s_place_of_greatest) .none kV9 dc9 pm9 an9 cd9 ct9), sl9⟩) (c9 : PySem.W.codeIn K cd9 "place_of_greatest" = true) (k9 : PySem.W.keepIn K (.ref f9) = true)
    (a10 : PySem.W.nsIn K mainGlobals "whole_cents" = some (some (.ref f10))) (l10 : K.lookup f10 = some ⟨oc10, od10, .func (PySem.W.fnOf "whole_cents" "whole_cents" (defArgs s_whole_cents) (defBody s_whole_cents) (defScope s_whole_cents) .none kV10 dc10 pm10 an10 cd10 ct10), sl10⟩) (c10 : PySem.W.codeIn K cd10 "whole_cents" = true) (k10 : PySem.W.keepIn K (.ref f10) = true)
    (a11 : PySem.W.nsIn K mainGlobals "difference" = some (some (.ref f11))) (l11 : K.lookup f11 = some ⟨oc11, od11, .func (PySem.W.fnOf "difference" "difference" (defArgs s_difference) (defBody s_difference) (defScope s_difference) .none kV11 dc11 pm11 an11 cd11 ct11), sl11⟩) (c11 : PySem.W.codeIn K cd11 "difference" = true) (k11 : PySem.W.keepIn K (.ref f11) = true)
    (a12 : PySem.W.nsIn K mainGlobals "greatest_difference" = some (some (.ref f12))) (l12 : K.lookup f12 = some ⟨oc12, od12, .func (PySem.W.fnOf "greatest_difference" "greatest_difference" (defArgs s_greatest_difference) (defBody s_greatest_difference) (defScope s_greatest_difference) .none kV12 dc12 pm12 an12 cd12 ct12), sl12⟩) (c12 : PySem.W.codeIn K cd12 "greatest_difference" = true) (k12 : PySem.W.keepIn K (.ref f12) = true)
    (a13 : PySem.W.nsIn K mainGlobals "_law_draws" = some (some (.ref f13))) (l13 : K.lookup f13 = some ⟨oc13, od13, .func (PySem.W.fnOf "_law_draws" "_law_draws" (defArgs s_law_draws) (defBody s_law_draws) (defScope s_law_draws) .none kV13 dc13 pm13 an13 cd13 ct13), sl13⟩) (c13 : PySem.W.codeIn K cd13 "_law_draws" = true) (k13 : PySem.W.keepIn K (.ref f13) = true)
    (a14 : PySem.W.nsIn K mainGlobals "_law_like" = some (some (.ref f14))) (l14 : K.lookup f14 = some ⟨oc14, od14, .func (PySem.W.fnOf "_law_like" "_law_like" (defArgs s_law_like) (defBody s_law_like) (defScope s_law_like) .none kV14 dc14 pm14 an14 cd14 ct14), sl14⟩) (c14 : PySem.W.codeIn K cd14 "_law_like" = true) (k14 : PySem.W.keepIn K (.ref f14) = true)
    (a15 : PySem.W.nsIn K mainGlobals "_law_copy" = some (some (.ref f15))) (l15 : K.lookup f15 = some ⟨oc15, od15, .func (PySem.W.fnOf "_law_copy" "_law_copy" (defArgs s_law_copy) (defBody s_law_copy) (defScope s_law_copy) .none kV15 dc15 pm15 an15 cd15 ct15), sl15⟩) (c15 : PySem.W.codeIn K cd15 "_law_copy" = true) (k15 : PySem.W.keepIn K (.ref f15) = true)
    (a16 : PySem.W.nsIn K mainGlobals "_law_frac" = some (some (.ref f16))) (l16 : K.lookup f16 = some ⟨oc16, od16, .func (PySem.W.fnOf "_law_frac" "_law_frac" (defArgs s_law_frac) (defBody s_law_frac) (defScope s_law_frac) .none kV16 dc16 pm16 an16 cd16 ct16), sl16⟩) (c16 : PySem.W.codeIn K cd16 "_law_frac" = true) (k16 : PySem.W.keepIn K (.ref f16) = true)
    (a17 : PySem.W.nsIn K mainGlobals "_law_plus" = some (some (.ref f17))) (l17 : K.lookup f17 = some ⟨oc17, od17, .func (PySem.W.fnOf "_law_plus" "_law_plus" (defArgs s_law_plus) (defBody s_law_plus) (defScope s_law_plus) .none kV17 dc17 pm17 an17 cd17 ct17), sl17⟩) (c17 : PySem.W.codeIn K cd17 "_law_plus" = true) (k17 : PySem.W.keepIn K (.ref f17) = true)
    (a18 : PySem.W.nsIn K mainGlobals "_law_minus" = some (some (.ref f18))) (l18 : K.lookup f18 = some ⟨oc18, od18, .func (PySem.W.fnOf "_law_minus" "_law_minus" (defArgs s_law_minus) (defBody s_law_minus) (defScope s_law_minus) .none kV18 dc18 pm18 an18 cd18 ct18), sl18⟩) (c18 : PySem.W.codeIn K cd18 "_law_minus" = true) (k18 : PySem.W.keepIn K (.ref f18) = true)
    (a19 : PySem.W.nsIn K mainGlobals "_law_total" = some (some (.ref f19))) (l19 : K.lookup f19 = some ⟨oc19, od19, .func (PySem.W.fnOf "_law_total" "_law_total" (defArgs s_law_total) (defBody s_law_total) (defScope s_law_total) .none kV19 dc19 pm19 an19 cd19 ct19), sl19⟩) (c19 : PySem.W.codeIn K cd19 "_law_total" = true) (k19 : PySem.W.keepIn K (.ref f19) = true)
    (a20 : PySem.W.nsIn K mainGlobals "_law_floor" = some (some (.ref f20))) (l20 : K.lookup f20 = some ⟨oc20, od20, .func (PySem.W.fnOf "_law_floor" "_law_floor" (defArgs s_law_floor) (defBody s_law_floor) (defScope s_law_floor) .none kV20 dc20 pm20 an20 cd20 ct20), sl20⟩) (c20 : PySem.W.codeIn K cd20 "_law_floor" = true) (k20 : PySem.W.keepIn K (.ref f20) = true)
    (a21 : PySem.W.nsIn K mainGlobals "_law_rounds" = some (some (.ref f21))) (l21 : K.lookup f21 = some ⟨oc21, od21, .func (PySem.W.fnOf "_law_rounds" "_law_rounds" (defArgs s_law_rounds) (defBody s_law_rounds) (defScope s_law_rounds) .none kV21 dc21 pm21 an21 cd21 ct21), sl21⟩) (c21 : PySem.W.codeIn K cd21 "_law_rounds" = true) (k21 : PySem.W.keepIn K (.ref f21) = true)
    (a22 : PySem.W.nsIn K mainGlobals "_law_amounts" = some (some (.ref f22))) (l22 : K.lookup f22 = some ⟨oc22, od22, .func (PySem.W.fnOf "_law_amounts" "_law_amounts" (defArgs s_law_amounts) (defBody s_law_amounts) (defScope s_law_amounts) .none kV22 dc22 pm22 an22 cd22 ct22), sl22⟩) (c22 : PySem.W.codeIn K cd22 "_law_amounts" = true) (k22 : PySem.W.keepIn K (.ref f22) = true)
    (a23 : PySem.W.nsIn K mainGlobals "_law_due" = some (some (.ref f23))) (l23 : K.lookup f23 = some ⟨oc23, od23, .func (PySem.W.fnOf "_law_due" "_law_due" (defArgs s_law_due) (defBody s_law_due) (defScope s_law_due) .none kV23 dc23 pm23 an23 cd23 ct23), sl23⟩) (c23 : PySem.W.codeIn K cd23 "_law_due" = true) (k23 : PySem.W.keepIn K (.ref f23) = true)
    (a24 : PySem.W.nsIn K mainGlobals "_law_worst" = some (some (.ref f24))) (l24 : K.lookup f24 = some ⟨oc24, od24, .func (PySem.W.fnOf "_law_worst" "_law_worst" (defArgs s_law_worst) (defBody s_law_worst) (defScope s_law_worst) .none kV24 dc24 pm24 an24 cd24 ct24), sl24⟩) (c24 : PySem.W.codeIn K cd24 "_law_worst" = true) (k24 : PySem.W.keepIn K (.ref f24) = true)
    (a25 : PySem.W.nsIn K mainGlobals "_law_near" = some (some (.ref f25))) (l25 : K.lookup f25 = some ⟨oc25, od25, .func (PySem.W.fnOf "_law_near" "_law_near" (defArgs s_law_near) (defBody s_law_near) (defScope s_law_near) .none kV25 dc25 pm25 an25 cd25 ct25), sl25⟩) (c25 : PySem.W.codeIn K cd25 "_law_near" = true) (k25 : PySem.W.keepIn K (.ref f25) = true)
    (a26 : PySem.W.nsIn K mainGlobals "law" = some (some (.ref f26))) (l26 : K.lookup f26 = some ⟨oc26, od26, .func (PySem.W.fnOf "law" "law" (defArgs s_law) (defBody s_law) (defScope s_law) .none kV26 dc26 pm26 an26 cd26 ct26), sl26⟩) (c26 : PySem.W.codeIn K cd26 "law" = true) (k26 : PySem.W.keepIn K (.ref f26) = true)
    (z_abs : PySem.W.nsIn K mainGlobals "abs" = some none)
    (z_bool : PySem.W.nsIn K mainGlobals "bool" = some none)
    (z_enumerate : PySem.W.nsIn K mainGlobals "enumerate" = some none)
    (z_int : PySem.W.nsIn K mainGlobals "int" = some none)
    (z_isinstance : PySem.W.nsIn K mainGlobals "isinstance" = some none)
    (z_len : PySem.W.nsIn K mainGlobals "len" = some none)
    (z_list : PySem.W.nsIn K mainGlobals "list" = some none)
    (z_range : PySem.W.nsIn K mainGlobals "range" = some none)
    (z_str : PySem.W.nsIn K mainGlobals "str" = some none)
    (z_sum : PySem.W.nsIn K mainGlobals "sum" = some none)
    (z_tuple : PySem.W.nsIn K mainGlobals "tuple" = some none)
    (z_zip : PySem.W.nsIn K mainGlobals "zip" = some none)
    (m_gcd : PySem.W.nsIn K mainGlobals "gcd" = some (some (.builtin "math.gcd")))
    (g0 : PySem.W.nsIn K mainGlobals "ZERO" = some (some (.ref ac0))) (h0 : K.lookup ac0 = some ⟨.type "tuple", dd0, .seq ([.int 0 tc0_0, .int 1 tc0_1] : List Value).toArray nn0, sc0⟩) :
    ∃ fd : FuncData, (∀ (s : Shared) (v : Value), BindsTo s fd ⟨[v], []⟩ [("script", v)]) ∧ ∀ base : Heap, K.In base → base.Ns mainGlobals mg → FnOk l.prog w K mg base (L2.CX l.prog w) 16 fa fd ["script"] (spD K mg 1 0 d_law) := by
  have e := hfa.symm.trans (PySem.W.mg_of X G a26)
  cases e
  have T : Tx mg := ⟨PySem.W.mg_none_of X G z_abs, PySem.W.mg_none_of X G z_bool, PySem.W.mg_none_of X G z_enumerate, PySem.W.mg_none_of X G z_int, PySem.W.mg_none_of X G z_isinstance, PySem.W.mg_none_of X G z_len, PySem.W.mg_none_of X G z_list, PySem.W.mg_none_of X G z_range, PySem.W.mg_none_of X G z_str, PySem.W.mg_none_of X G z_sum, PySem.W.mg_none_of X G z_tuple, PySem.W.mg_none_of X G z_zip, PySem.W.mg_of X G m_gcd⟩
  have C_ZERO : Cn K mg "ZERO" c_ZERO := Cn.tup (PySem.W.mg_of X G g0) h0 (by simp) (vs := [.int 0, .int 1]) (.cons ⟨_, rfl⟩ (.cons ⟨_, rfl⟩ .nil)) fun F => (RepL.cons rfl (RepL.cons rfl rfl))
  have U0 := fun_mk (st := s_fraction) l0 c0 k0
  have B0 := U0.binds (ps := ps_fraction) fun _ _ _ _ _ _ us hl => match us, hl with | [_, _], _ => rfl
  have U1 := fun_mk (st := s_whole) l1 c1 k1
  have B1 := U1.binds (ps := ps_whole) fun _ _ _ _ _ _ us hl => match us, hl with | [_], _ => rfl
  have U2 := fun_mk (st := s_plus) l2 c2 k2
  have B2 := U2.binds (ps := ps_plus) fun _ _ _ _ _ _ us hl => match us, hl with | [_, _], _ => rfl
  have U3 := fun_mk (st := s_minus) l3 c3 k3
  have B3 := U3.binds (ps := ps_minus) fun _ _ _ _ _ _ us hl => match us, hl with | [_, _], _ => rfl
  have U4 := fun_mk (st := s_is_less) l4 c4 k4
  have B4 := U4.binds (ps := ps_is_less) fun _ _ _ _ _ _ us hl => match us, hl with | [_, _], _ => rfl
  have U5 := fun_mk (st := s_sum_of) l5 c5 k5
  have B5 := U5.binds (ps := ps_sum_of) fun _ _ _ _ _ _ us hl => match us, hl with | [_], _ => rfl
  have U6 := fun_mk (st := s_greater) l6 c6 k6
  have B6 := U6.binds (ps := ps_greater) fun _ _ _ _ _ _ us hl => match us, hl with | [_, _], _ => rfl
  have U7 := fun_mk (st := s_floor_of) l7 c7 k7
  have B7 := U7.binds (ps := ps_floor_of) fun _ _ _ _ _ _ us hl => match us, hl with | [_], _ => rfl
  have U8 := fun_mk (st := s_rest_of) l8 c8 k8
  have B8 := U8.binds (ps := ps_rest_of) fun _ _ _ _ _ _ us hl => match us, hl with | [_], _ => rfl
  have U9 := fun_mk (st := s_place_of_greatest) l9 c9 k9
  have B9 := U9.binds (ps := ps_place_of_greatest) fun _ _ _ _ _ _ us hl => match us, hl with | [_], _ => rfl
  have U10 := fun_mk (st := s_whole_cents) l10 c10 k10
  have B10 := U10.binds (ps := ps_whole_cents) fun _ _ _ _ _ _ us hl => match us, hl with | [_], _ => rfl
  have U11 := fun_mk (st := s_difference) l11 c11 k11
  have B11 := U11.binds (ps := ps_difference) fun _ _ _ _ _ _ us hl => match us, hl with | [_, _], _ => rfl
  have U12 := fun_mk (st := s_greatest_difference) l12 c12 k12
  have B12 := U12.binds (ps := ps_greatest_difference) fun _ _ _ _ _ _ us hl => match us, hl with | [_, _], _ => rfl
  have U13 := fun_mk (st := s_law_draws) l13 c13 k13
  have B13 := U13.binds (ps := ps_law_draws) fun _ _ _ _ _ _ us hl => match us, hl with | [_, _, _], _ => rfl
  have U14 := fun_mk (st := s_law_like) l14 c14 k14
  have B14 := U14.binds (ps := ps_law_like) fun _ _ _ _ _ _ us hl => match us, hl with | [_, _], _ => rfl
  have U15 := fun_mk (st := s_law_copy) l15 c15 k15
  have B15 := U15.binds (ps := ps_law_copy) fun _ _ _ _ _ _ us hl => match us, hl with | [_], _ => rfl
  have U16 := fun_mk (st := s_law_frac) l16 c16 k16
  have B16 := U16.binds (ps := ps_law_frac) fun _ _ _ _ _ _ us hl => match us, hl with | [_, _], _ => rfl
  have U17 := fun_mk (st := s_law_plus) l17 c17 k17
  have B17 := U17.binds (ps := ps_law_plus) fun _ _ _ _ _ _ us hl => match us, hl with | [_, _], _ => rfl
  have U18 := fun_mk (st := s_law_minus) l18 c18 k18
  have B18 := U18.binds (ps := ps_law_minus) fun _ _ _ _ _ _ us hl => match us, hl with | [_, _], _ => rfl
  have U19 := fun_mk (st := s_law_total) l19 c19 k19
  have B19 := U19.binds (ps := ps_law_total) fun _ _ _ _ _ _ us hl => match us, hl with | [_], _ => rfl
  have U20 := fun_mk (st := s_law_floor) l20 c20 k20
  have B20 := U20.binds (ps := ps_law_floor) fun _ _ _ _ _ _ us hl => match us, hl with | [_], _ => rfl
  have U21 := fun_mk (st := s_law_rounds) l21 c21 k21
  have B21 := U21.binds (ps := ps_law_rounds) fun _ _ _ _ _ _ us hl => match us, hl with | [_, _], _ => rfl
  have U22 := fun_mk (st := s_law_amounts) l22 c22 k22
  have B22 := U22.binds (ps := ps_law_amounts) fun _ _ _ _ _ _ us hl => match us, hl with | [_], _ => rfl
  have U23 := fun_mk (st := s_law_due) l23 c23 k23
  have B23 := U23.binds (ps := ps_law_due) fun _ _ _ _ _ _ us hl => match us, hl with | [_], _ => rfl
  have U24 := fun_mk (st := s_law_worst) l24 c24 k24
  have B24 := U24.binds (ps := ps_law_worst) fun _ _ _ _ _ _ us hl => match us, hl with | [_, _], _ => rfl
  have U25 := fun_mk (st := s_law_near) l25 c25 k25
  have B25 := U25.binds (ps := ps_law_near) fun _ _ _ _ _ _ us hl => match us, hl with | [_, _], _ => rfl
  have U26 := fun_mk (st := s_law) l26 c26 k26
  refine ⟨PySem.W.fnOf "law" "law" (defArgs s_law) (defBody s_law) (defScope s_law) .none kV26 dc26 pm26 an26 cd26 ct26, fun s v => .of_eq rfl, fun base _ _ => ?_⟩
  have F_fraction := ok_fraction (P := l.prog) (w := w) (base := base) T U0 B0 (PySem.W.mg_of X G a0)  
  have F_whole := ok_whole (P := l.prog) (w := w) (base := base) T U1 B1 (PySem.W.mg_of X G a1)  
  have F_plus := ok_plus (P := l.prog) (w := w) (base := base) T U2 B2 (PySem.W.mg_of X G a2) F_fraction 
  have F_minus := ok_minus (P := l.prog) (w := w) (base := base) T U3 B3 (PySem.W.mg_of X G a3) F_fraction 
  have F_is_less := ok_is_less (P := l.prog) (w := w) (base := base) T U4 B4 (PySem.W.mg_of X G a4)  
  have F_sum_of := ok_sum_of (P := l.prog) (w := w) (base := base) T U5 B5 (PySem.W.mg_of X G a5) F_plus C_ZERO
  have F_greater := ok_greater (P := l.prog) (w := w) (base := base) T U6 B6 (PySem.W.mg_of X G a6) F_is_less 
  have F_floor_of := ok_floor_of (P := l.prog) (w := w) (base := base) T U7 B7 (PySem.W.mg_of X G a7)  
  have F_rest_of := ok_rest_of (P := l.prog) (w := w) (base := base) T U8 B8 (PySem.W.mg_of X G a8) F_minus F_whole F_floor_of 
  have F_place_of_greatest := ok_place_of_greatest (P := l.prog) (w := w) (base := base) T U9 B9 (PySem.W.mg_of X G a9) F_is_less 
  have F_whole_cents := ok_whole_cents (P := l.prog) (w := w) (base := base) T U10 B10 (PySem.W.mg_of X G a10) F_floor_of F_rest_of F_sum_of F_place_of_greatest F_whole 
  have F_difference := ok_difference (P := l.prog) (w := w) (base := base) T U11 B11 (PySem.W.mg_of X G a11) F_is_less F_minus 
  have F_greatest_difference := ok_greatest_difference (P := l.prog) (w := w) (base := base) T U12 B12 (PySem.W.mg_of X G a12) F_greater F_difference F_whole C_ZERO
  have F_law_draws := ok_law_draws (P := l.prog) (w := w) (base := base) T U13 B13 (PySem.W.mg_of X G a13)  
  have F_law_like := ok_law_like (P := l.prog) (w := w) (base := base) T U14 B14 (PySem.W.mg_of X G a14)  
  have F_law_copy := ok_law_copy (P := l.prog) (w := w) (base := base) T U15 B15 (PySem.W.mg_of X G a15)  
  have F_law_frac := ok_law_frac (P := l.prog) (w := w) (base := base) T U16 B16 (PySem.W.mg_of X G a16)  
  have F_law_plus := ok_law_plus (P := l.prog) (w := w) (base := base) T U17 B17 (PySem.W.mg_of X G a17) F_law_frac 
  have F_law_minus := ok_law_minus (P := l.prog) (w := w) (base := base) T U18 B18 (PySem.W.mg_of X G a18) F_law_frac 
  have F_law_total := ok_law_total (P := l.prog) (w := w) (base := base) T U19 B19 (PySem.W.mg_of X G a19) F_law_plus 
  have F_law_floor := ok_law_floor (P := l.prog) (w := w) (base := base) T U20 B20 (PySem.W.mg_of X G a20)  
  have F_law_rounds := ok_law_rounds (P := l.prog) (w := w) (base := base) T U21 B21 (PySem.W.mg_of X G a21)  
  have F_law_amounts := ok_law_amounts (P := l.prog) (w := w) (base := base) T U22 B22 (PySem.W.mg_of X G a22) F_law_draws F_law_frac F_law_total F_law_minus 
  have F_law_due := ok_law_due (P := l.prog) (w := w) (base := base) T U23 B23 (PySem.W.mg_of X G a23) F_law_minus F_law_floor F_law_total 
  have F_law_worst := ok_law_worst (P := l.prog) (w := w) (base := base) T U24 B24 (PySem.W.mg_of X G a24) F_law_minus 
  have F_law_near := ok_law_near (P := l.prog) (w := w) (base := base) T U25 B25 (PySem.W.mg_of X G a25) F_law_floor 
  exact okf_law T U26 F_law_amounts F_law_copy F_law_due F_whole_cents F_law_total F_law_like F_law_rounds F_law_worst F_greatest_difference F_law_draws F_law_near 
end
theorem walk {l : PySem.W.OpenLaw} {q : Program} {loose : List Str} {XP : (Str → Option Value) → Heap → Prop} {YP : World → Heap → Prop} {d : DefRec} {K : Params → PySem.W.Frag} (hd : ∀ ns : List Int, ns.length ≤ 63 → (∀ z ∈ ns, Builtin.Int.intBits z ≤ 1048576) → d_law [.ro ns] = .ok (.bl true)) (hn : l.most = some 63) (hdf : d.params.defaults = [])
    (hY : ∀ (w : World) (h : Heap), YP w h → (K w.params).In h)
    (F : ∀ (w : World) (mg : Str → Option Value) (fa : Addr) (h : Heap), (K w.params).In h → h.Ns mainGlobals mg → mg d.name = some (.ref fa) →
      ∃ fd : FuncData, (∀ (s : Shared) (u : Value), BindsTo s fd ⟨[u], []⟩ [("script", u)]) ∧ ∀ base : Heap, (K w.params).In base → base.Ns mainGlobals mg → FnOk l.prog w (K w.params) mg base (L2.CX l.prog w) 16 fa fd ["script"] (spD (K w.params) mg 1 0 d_law)) :
    PySem.W.WalkO q loose XP YP l.row.toRowW d [] (fun f vs => PySem.call f vs) :=
  walk_end hd hn hdf ⟨rfl, by decide, by decide⟩ hY F
end Pw.K62

open PySem PySem.W PyProof.Rows in
set_option maxRecDepth 100000 in
set_option maxHeartbeats 0 in
theorem PySem.Challenge.cw_ridesshared_k62_whole_cents_lose_nothing_holds : PySem.Challenge.rw_ridesshared_k62_whole_cents_lose_nothing.Holds := by
  w_on; o_law; k_head; (case hw => w_witness2)
  k_fill
  refine Pw.K62.walk (l := PySem.Challenge.rw_ridesshared_k62_whole_cents_lose_nothing) Pw.K62.law_holds rfl rfl (fun w h Y => PySem.W.kIn_of Y) ?F
  case F =>
    intro w mg fa h KX G hmg
    refine' Pw.K62.all_mk KX G hmg ?a0 ?l0 ?c0 ?k0 ?a1 ?l1 ?c1 ?k1 ?a2 ?l2 ?c2 ?k2 ?a3 ?l3 ?c3 ?k3 ?a4 ?l4 ?c4 ?k4 ?a5 ?l5 ?c5 ?k5 ?a6 ?l6 ?c6 ?k6 ?a7 ?l7 ?c7 ?k7 ?a8 ?l8 ?c8 ?k8 ?a9 ?l9 ?c9 ?k9 ?a10 ?l10 ?c10 ?k10 ?a11 ?l11 ?c11 ?k11 ?a12 ?l12 ?c12 ?k12 ?a13 ?l13 ?c13 ?k13 ?a14 ?l14 ?c14 ?k14 ?a15 ?l15 ?c15 ?k15 ?a16 ?l16 ?c16 ?k16 ?a17 ?l17 ?c17 ?k17 ?a18 ?l18 ?c18 ?k18 ?a19 ?l19 ?c19 ?k19 ?a20 ?l20 ?c20 ?k20 ?a21 ?l21 ?c21 ?k21 ?a22 ?l22 ?c22 ?k22 ?a23 ?l23 ?c23 ?k23 ?a24 ?l24 ?c24 ?k24 ?a25 ?l25 ?c25 ?k25 ?a26 ?l26 ?c26 ?k26 ?z_abs ?z_bool ?z_enumerate ?z_int ?z_isinstance ?z_len ?z_list ?z_range ?z_str ?z_sum ?z_tuple ?z_zip ?m_gcd ?g0 ?h0
    (case a0 => k_is)
    (case l0 => k_is)
    (case c0 => k_is)
    (case k0 => k_is)
    (case a1 => k_is)
    (case l1 => k_is)
    (case c1 => k_is)
    (case k1 => k_is)
    (case a2 => k_is)
    (case l2 => k_is)
    (case c2 => k_is)
    (case k2 => k_is)
    (case a3 => k_is)
    (case l3 => k_is)
    (case c3 => k_is)
    (case k3 => k_is)
    (case a4 => k_is)
    (case l4 => k_is)
    (case c4 => k_is)
    (case k4 => k_is)
    (case a5 => k_is)
    (case l5 => k_is)
    (case c5 => k_is)
    (case k5 => k_is)
    (case a6 => k_is)
    (case l6 => k_is)
    (case c6 => k_is)
    (case k6 => k_is)
    (case a7 => k_is)
    (case l7 => k_is)
    (case c7 => k_is)
    (case k7 => k_is)
    (case a8 => k_is)
    (case l8 => k_is)
    (case c8 => k_is)
    (case k8 => k_is)
    (case a9 => k_is)
    (case l9 => k_is)
    (case c9 => k_is)
    (case k9 => k_is)
    (case a10 => k_is)
    (case l10 => k_is)
    (case c10 => k_is)
    (case k10 => k_is)
    (case a11 => k_is)
    (case l11 => k_is)
    (case c11 => k_is)
    (case k11 => k_is)
    (case a12 => k_is)
    (case l12 => k_is)
    (case c12 => k_is)
    (case k12 => k_is)
    (case a13 => k_is)
    (case l13 => k_is)
    (case c13 => k_is)
    (case k13 => k_is)
    (case a14 => k_is)
    (case l14 => k_is)
    (case c14 => k_is)
    (case k14 => k_is)
    (case a15 => k_is)
    (case l15 => k_is)
    (case c15 => k_is)
    (case k15 => k_is)
    (case a16 => k_is)
    (case l16 => k_is)
    (case c16 => k_is)
    (case k16 => k_is)
    (case a17 => k_is)
    (case l17 => k_is)
    (case c17 => k_is)
    (case k17 => k_is)
    (case a18 => k_is)
    (case l18 => k_is)
    (case c18 => k_is)
    (case k18 => k_is)
    (case a19 => k_is)
    (case l19 => k_is)
    (case c19 => k_is)
    (case k19 => k_is)
    (case a20 => k_is)
    (case l20 => k_is)
    (case c20 => k_is)
    (case k20 => k_is)
    (case a21 => k_is)
    (case l21 => k_is)
    (case c21 => k_is)
    (case k21 => k_is)
    (case a22 => k_is)
    (case l22 => k_is)
    (case c22 => k_is)
    (case k22 => k_is)
    (case a23 => k_is)
    (case l23 => k_is)
    (case c23 => k_is)
    (case k23 => k_is)
    (case a24 => k_is)
    (case l24 => k_is)
    (case c24 => k_is)
    (case k24 => k_is)
    (case a25 => k_is)
    (case l25 => k_is)
    (case c25 => k_is)
    (case k25 => k_is)
    (case a26 => k_is)
    (case l26 => k_is)
    (case c26 => k_is)
    (case k26 => k_is)
    (case z_abs => k_is)
    (case z_bool => k_is)
    (case z_enumerate => k_is)
    (case z_int => k_is)
    (case z_isinstance => k_is)
    (case z_len => k_is)
    (case z_list => k_is)
    (case z_range => k_is)
    (case z_str => k_is)
    (case z_sum => k_is)
    (case z_tuple => k_is)
    (case z_zip => k_is)
    (case m_gcd => k_is)
    (case g0 => k_is)
    (case h0 => k_is)
