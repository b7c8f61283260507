import PyProof.Rows.All
import Wide.All
import OpenK.AllK
import Wide.FinOn
import PySem.Challenge.RW_farseen_k12_pictures_turned_shifted_mult
import KE.KStateDown
import Lean
import HandS.ForMost
import HandS.ForExc
import HandS.ExcInit
import HandS.IsInst
import HandS.Lambda
import HandS.Wide
import HandS.CallSlots
import KE.KExcIs
import HandS.ExcIs
import HandS.Head0
import HandS.Head1
import HandS.Head2
import HandS.HeadEnd
import HandS.HeadHook1
import HandS.HeadHook2
import HandS.HeadHook3
import HandS.HeadHook4
import HandS.HeadWalk
import HandS.EndTab
import HandS.Style
import HandS.Iter
import HandS.Zip
import HandS.Text
import HandS.Deep
import HandS.OwnEq
set_option Elab.async false
set_option linter.all false
set_option maxRecDepth 100000
set_option maxHeartbeats 0
set_option exponentiation.threshold 4000
/-! ### M1: plain data, what stands for it in the abstract heap, the state of a body -/
namespace Mi
open PySem PySem.Spec PyProof.Rows L2

/-- plain data: what a value is worth, without addresses -/
inductive D where
  | non | bl (b : Bool) | int (i : Int) | str (x : Str)
  | lst (xs : List D) | tup (xs : List D) | dic (kvs : List (Key × D)) | scr (xs : List D)
  | ins (c : Str) (fs : List (Str × D)) | exc (c : Str) (fs : List (Str × D))
  | ty (n : String) | cls (c : Str) | fn (f : Str)
/-- what is ours alone and may change -/
inductive O where
  | lst (xs : List D) | ins (c : Str) (fs : List (Str × D))
/-- how a slot stands -/
inductive S where
  | non | val (d : D) | own (o : O) | lent (j : Nat) (o : O) | ali (i : Nat) | raw
/-- an outcome -/
inductive R (α : Type) where
  | ok (a : α) | exc (c : Str) (fs : List (Str × D)) (τ : List S) | stuck
abbrev M (α : Type) := List S → R (α × List S)

/-- what stands still through the whole law -/
structure Gx where
  K : PySem.W.Frag
  cls : Str → Option Addr
  fn : Str → Option Addr
  T : List (Addr × Str)

def Le (Φ H : Hp) : Prop := ∀ a o, Φ a = some o → H a = some o
theorem Le.refl (H : Hp) : Le H H := fun _ _ h => h
theorem Le.trans {A B C : Hp} (x : Le A B) (y : Le B C) : Le A C := fun a o h => y a o (x a o h)

/-- at a: an exception of the class at C that is not in flight, its own dict d -/
def exn (a C : Addr) (d : Option Addr) : HO := .ext fun h => ∃ (oe : Obj) (vs : Array Value), h.get? a = some oe ∧ oe.cls = .ref C ∧ oe.dict = d ∧ oe.data = .fields vs
mutual
/-- v stands for d, by what never changes -/
inductive Fz (G : Gx) (Φ : Hp) : V → D → Prop
  | non : Fz G Φ .non .non
  | bl (b : Bool) : Fz G Φ (.bl b) (.bl b)
  | int (i : Int) : Fz G Φ (.int i) (.int i)
  | str (x : Str) : Fz G Φ (.str x) (.str x)
  | ty (n : String) : Fz G Φ (.ty n) (.ty n)
  | lst {a : Addr} {vs : List V} {ds : List D} : Φ a = some (.lst vs) → FzL G Φ vs ds → Fz G Φ (.ref a) (.lst ds)
  | scr {a : Addr} {vs : List V} {ds : List D} : SqL G.K Φ a vs → FzL G Φ vs ds → Fz G Φ (.ref a) (.scr ds)
  | tup {a : Addr} {vs : List V} {ds : List D} : SqT G.K Φ a vs → FzL G Φ vs ds → Fz G Φ (.ref a) (.tup ds)
  | dic {a : Addr} {kvs : List (Key × V)} {ds : List (Key × D)} : Φ a = some (.dK kvs) → FzK G Φ kvs ds → Fz G Φ (.ref a) (.dic ds)
  | ins {a C dx : Addr} {c : Str} {fs : List (Str × V)} {ds : List (Str × D)} : Φ a = some (.ins C dx fs) → G.cls c = some C → FzF G Φ fs ds → Fz G Φ (.ref a) (.ins c ds)
  | exc0 {a C : Addr} {c : Str} : Φ a = some (exn a C none) → G.cls c = some C → Fz G Φ (.ref a) (.exc c [])
  | exc1 {a C dd : Addr} {c : Str} {fs : List (Str × V)} {ds : List (Str × D)} : Φ a = some (exn a C (some dd)) → G.cls c = some C → Φ dd = some (.xd fs) → FzF G Φ fs ds → Fz G Φ (.ref a) (.exc c ds)
  | cls {C : Addr} {c : Str} : G.cls c = some C → Fz G Φ (.ref C) (.cls c)
  | fn {a : Addr} {f : Str} : G.fn f = some a → Fz G Φ (.ref a) (.fn f)
inductive FzL (G : Gx) (Φ : Hp) : List V → List D → Prop
  | nil : FzL G Φ [] []
  | cons {v : V} {d : D} {vs : List V} {ds : List D} : Fz G Φ v d → FzL G Φ vs ds → FzL G Φ (v :: vs) (d :: ds)
inductive FzK (G : Gx) (Φ : Hp) : List (Key × V) → List (Key × D) → Prop
  | nil : FzK G Φ [] []
  | cons {k : Key} {v : V} {d : D} {vs : List (Key × V)} {ds : List (Key × D)} : Fz G Φ v d → FzK G Φ vs ds → FzK G Φ ((k, v) :: vs) ((k, d) :: ds)
inductive FzF (G : Gx) (Φ : Hp) : List (Str × V) → List (Str × D) → Prop
  | nil : FzF G Φ [] []
  | cons {f : Str} {v : V} {d : D} {vs : List (Str × V)} {ds : List (Str × D)} : Fz G Φ v d → FzF G Φ vs ds → FzF G Φ ((f, v) :: vs) ((f, d) :: ds)
end

section
variable {G : Gx} {Φ Φ' H H' : Hp}
theorem Rd.le {a : Addr} {u : HO} (h : Rd Φ a u) (l : Le Φ Φ') : Rd Φ' a u := by
  rcases h with h | ⟨o, h⟩
  · exact .inl (l _ _ h)
  · exact .inr ⟨o, l _ _ h⟩
theorem SqL.le {K : PySem.W.Frag} {a : Addr} {vs : List V} (h : SqL K Φ a vs) (l : Le Φ Φ') : SqL K Φ' a vs := h.elim (fun h => .inl (Rd.le h l)) .inr
theorem SqT.le {K : PySem.W.Frag} {a : Addr} {vs : List V} (h : SqT K Φ a vs) (l : Le Φ Φ') : SqT K Φ' a vs := h.elim (fun h => .inl (Rd.le h l)) .inr
mutual
theorem Fz.le (l : Le Φ Φ') {v : V} {d : D} : Fz G Φ v d → Fz G Φ' v d
  | .non => .non
  | .bl b => .bl b
  | .int i => .int i
  | .str x => .str x
  | .ty n => .ty n
  | .lst h t => .lst (l _ _ h) (FzL.le l t)
  | .scr h t => .scr (SqL.le h l) (FzL.le l t)
  | .tup h t => .tup (SqT.le h l) (FzL.le l t)
  | .dic h t => .dic (l _ _ h) (FzK.le l t)
  | .ins h c t => .ins (l _ _ h) c (FzF.le l t)
  | .exc0 h c => .exc0 (l _ _ h) c
  | .exc1 h c k t => .exc1 (l _ _ h) c (l _ _ k) (FzF.le l t)
  | .cls c => .cls c
  | .fn f => .fn f
theorem FzL.le (l : Le Φ Φ') {v : List V} {d : List D} : FzL G Φ v d → FzL G Φ' v d
  | .nil => .nil
  | .cons h t => .cons (Fz.le l h) (FzL.le l t)
theorem FzK.le (l : Le Φ Φ') {v : List (Key × V)} {d : List (Key × D)} : FzK G Φ v d → FzK G Φ' v d
  | .nil => .nil
  | .cons h t => .cons (Fz.le l h) (FzK.le l t)
theorem FzF.le (l : Le Φ Φ') {v : List (Str × V)} {d : List (Str × D)} : FzF G Φ v d → FzF G Φ' v d
  | .nil => .nil
  | .cons h t => .cons (Fz.le l h) (FzF.le l t)
end
theorem FzL.length {vs : List V} {ds : List D} : FzL G Φ vs ds → vs.length = ds.length
  | .nil => rfl
  | .cons _ t => by rw [List.length_cons, List.length_cons, FzL.length t]
theorem FzL.get : ∀ {vs : List V} {ds : List D} {i : Nat} {d : D}, FzL G Φ vs ds → ds[i]? = some d → ∃ v, vs[i]? = some v ∧ Fz G Φ v d
  | _, _, _, _, .nil, e => by simp at e
  | _, _, 0, _, .cons h _, e => by
    simp at e
    subst e
    exact ⟨_, rfl, h⟩
  | _, _, i + 1, _, .cons _ t, e => by
    obtain ⟨v, h1, h2⟩ := FzL.get (i := i) t (by simpa using e)
    exact ⟨v, by simpa using h1, h2⟩
theorem FzL.getV : ∀ {vs : List V} {ds : List D} {i : Nat} {v : V}, FzL G Φ vs ds → vs[i]? = some v → ∃ d, ds[i]? = some d ∧ Fz G Φ v d
  | _, _, _, _, .nil, e => by simp at e
  | _, _, 0, _, .cons h _, e => by
    simp at e
    subst e
    exact ⟨_, rfl, h⟩
  | _, _, i + 1, _, .cons _ t, e => by
    obtain ⟨d, h1, h2⟩ := FzL.getV (i := i) t (by simpa using e)
    exact ⟨d, by simpa using h1, h2⟩
theorem FzL.append : ∀ {vs ws : List V} {ds es : List D}, FzL G Φ vs ds → FzL G Φ ws es → FzL G Φ (vs ++ ws) (ds ++ es)
  | _, _, _, _, .nil, h => h
  | _, _, _, _, .cons h t, q => .cons h (FzL.append t q)
theorem FzL.set : ∀ {vs : List V} {ds : List D} {v : V} {d : D} (i : Nat), FzL G Φ vs ds → Fz G Φ v d → FzL G Φ (vs.set i v) (ds.set i d)
  | _, _, _, _, _, .nil, _ => .nil
  | _, _, _, _, 0, .cons _ t, q => .cons q t
  | _, _, _, _, i + 1, .cons h t, q => .cons h (FzL.set i t q)
theorem FzL.take : ∀ {vs : List V} {ds : List D} (n : Nat), FzL G Φ vs ds → FzL G Φ (vs.take n) (ds.take n)
  | _, _, 0, _ => .nil
  | _, _, _ + 1, .nil => .nil
  | _, _, n + 1, .cons h t => .cons h (FzL.take n t)
theorem FzL.drop : ∀ {vs : List V} {ds : List D} (n : Nat), FzL G Φ vs ds → FzL G Φ (vs.drop n) (ds.drop n)
  | _, _, 0, h => h
  | _, _, _ + 1, .nil => .nil
  | _, _, n + 1, .cons _ t => FzL.drop n t
theorem FzL.reverse : ∀ {vs : List V} {ds : List D}, FzL G Φ vs ds → FzL G Φ vs.reverse ds.reverse
  | _, _, .nil => .nil
  | _, _, .cons h t => by
    rw [List.reverse_cons, List.reverse_cons]
    exact FzL.append (FzL.reverse t) (.cons h .nil)
theorem FzF.look : ∀ {vs : List (Str × V)} {ds : List (Str × D)} {f : Str} {d : D}, FzF G Φ vs ds → ds.lookup f = some d → ∃ v, vs.lookup f = some v ∧ Fz G Φ v d
  | _, _, _, _, .nil, e => by simp at e
  | _, _, f, d, .cons (f := g) h t, e => by
    by_cases hf : (f == g) = true
    · rw [List.lookup_cons, hf] at e
      cases e
      exact ⟨_, by rw [List.lookup_cons, hf], h⟩
    · have hf' : (f == g) = false := by simpa using hf
      rw [List.lookup_cons, hf'] at e
      obtain ⟨v, h1, h2⟩ := FzF.look t e
      exact ⟨v, by rw [List.lookup_cons, hf']; exact h1, h2⟩
theorem FzF.look0 : ∀ {vs : List (Str × V)} {ds : List (Str × D)} {f : Str}, FzF G Φ vs ds → ds.lookup f = none → vs.lookup f = none
  | _, _, _, .nil, _ => by simp
  | _, _, f, .cons (f := g) h t, e => by
    by_cases hf : (f == g) = true
    · rw [List.lookup_cons, hf] at e
      cases e
    · have hf' : (f == g) = false := by simpa using hf
      rw [List.lookup_cons, hf'] at e
      rw [List.lookup_cons, hf']
      exact FzF.look0 t e
/-- a field stored -/
def putD (f : Str) (d : D) : List (Str × D) → List (Str × D)
  | [] => [(f, d)]
  | (g, e) :: r => if g = f then (g, d) :: r else (g, e) :: putD f d r
end

/-- v at a stands for what is ours -/
def Ow (G : Gx) (Φ H : Hp) (a : Addr) : O → Prop
  | .lst xs => ∃ vs, H a = some (.lst vs) ∧ FzL G Φ vs xs
  | .ins c fs => ∃ C dx vs, H a = some (.ins C dx vs) ∧ G.cls c = some C ∧ FzF G Φ vs fs
/-- what it is worth when nobody changes it any more -/
def O.frz : O → D
  | .lst xs => .lst xs
  | .ins c fs => .ins c fs

/-- a body's frame: the world and the abstract heap at its entry, what was lent to it -/
structure Fm where
  G : Gx
  Φ0 : Hp
  H0 : Hp
  P : Nat → Option Addr
  raw : Option Addr

abbrev Env1 := List (Option V × S)
def S.real : S → Prop
  | .non => False
  | .raw => False
  | .ali _ => False
  | _ => True
/-- one slot, one value in the air -/
def One (F : Fm) (Φ H : Hp) (σ : L2.St) (τ : List S) : Option V × S → Prop
  | (_, .non) => True
  | (v, .val d) => ∃ x, v = some x ∧ Fz F.G Φ x d
  | (v, .own o) => ∃ a, v = some (.ref a) ∧ Ow F.G Φ H a o ∧ Φ a = none ∧ F.H0 a = none
  | (v, .lent j o) => ∃ a, v = some (.ref a) ∧ Ow F.G Φ H a o ∧ Φ a = none ∧ F.P j = some a
  | (v, .ali i) => ∃ x s, v = some x ∧ σ[i]? = some (some x) ∧ τ[i]? = some s ∧ s.real
  | (v, .raw) => ∃ a, v = some (.ref a) ∧ F.raw = some a
def holds : Option V × S → Option Addr
  | (some (.ref a), .own _) => some a
  | (some (.ref a), .lent _ _) => some a
  | _ => none
/-- two that do not share what is ours -/
def Apart (p q : Option V × S) : Prop := ∀ a, holds p = some a → holds q ≠ some a
theorem Apart.symm {p q : Option V × S} (h : Apart p q) : Apart q p := fun a h1 h2 => h a h2 h1
def Subp {α : Type} (l m : List α) : Prop := ∃ k : List α, k.Perm l ∧ k.Sublist m
theorem Subp.of {α : Type} {l m : List α} (h : l.Sublist m) : Subp l m := ⟨l, .refl _, h⟩
theorem Subp.perm {α : Type} {l m : List α} (h : m.Perm l) : Subp l m := ⟨m, h, List.Sublist.refl _⟩
theorem Subp.cons' {α : Type} {l m : List α} {x : α} (h : Subp l m) : Subp l (x :: m) := by
  obtain ⟨k, p, q⟩ := h
  exact ⟨k, p, q.trans (List.sublist_cons_self _ _)⟩
theorem Subp.app' {α : Type} {l m k : List α} (h : Subp l m) : Subp l (k ++ m) := by
  obtain ⟨j, p, q⟩ := h
  exact ⟨j, p, q.trans (List.sublist_append_right _ _)⟩
def S.noali : S → Prop
  | .ali _ => False
  | _ => True
/-- no slot is another slot's name -/
def Flat (τ : List S) : Prop := ∀ s ∈ τ, s.noali
/-- slots, then what is in the air -/
abbrev both (σ : L2.St) (τ : List S) (tm : Env1) : Env1 := σ.zip τ ++ tm

/-- the tables of code objects, of which none is of the world -/
def TabsN (T : List (Addr × Str)) (Φ H : Hp) : Prop := LamX.Tabs T H ∧ ∀ b ps, Φ b ≠ some (.tbl ps)
structure Rl (F : Fm) (Φ H : Hp) (σ : L2.St) (τ : List S) (tm : Env1) : Prop where
  len : σ.length = τ.length
  fl : Flat τ
  le0 : Le F.Φ0 Φ
  le : Le Φ H
  pres : ∀ b o, F.H0 b = some o → (∀ j, F.P j ≠ some b) → (∀ ps, o ≠ .tbl ps) → H b = some o
  dom : ∀ b, H b = none → F.H0 b = none
  new : ∀ b o, Φ b = some o → F.Φ0 b = some o ∨ F.H0 b = none
  one : ∀ p ∈ both σ τ tm, One F Φ H σ τ p
  nd : (both σ τ tm).Pairwise Apart
  tabs : TabsN F.G.T Φ H

section
variable {F : Fm} {Φ Φ' H H' : Hp} {σ : L2.St} {τ : List S} {tm tm' : Env1}
theorem holds_some {p : Option V × S} {a : Addr} (h : holds p = some a) : p.1 = some (.ref a) ∧ ((∃ o, p.2 = .own o) ∨ ∃ j o, p.2 = .lent j o) := by
  obtain ⟨v, s⟩ := p
  cases s with
  | own o =>
    cases v with
    | none => cases h
    | some x =>
      cases x with
      | ref b => cases h; exact ⟨rfl, .inl ⟨o, rfl⟩⟩
      | _ => cases h
  | lent j o =>
    cases v with
    | none => cases h
    | some x =>
      cases x with
      | ref b => cases h; exact ⟨rfl, .inr ⟨j, o, rfl⟩⟩
      | _ => cases h
  | _ =>
    cases v with
    | none => cases h
    | some x => cases x <;> cases h
theorem Ow.there {G : Gx} {a : Addr} {o : O} (h : Ow G Φ H a o) : ∃ u, H a = some u ∧ (∀ ps, u ≠ .tbl ps) := by
  cases o with
  | lst xs => obtain ⟨vs, e, _⟩ := h; exact ⟨_, e, fun _ z => by cases z⟩
  | ins c fs => obtain ⟨C, dx, vs, e, _⟩ := h; exact ⟨_, e, fun _ z => by cases z⟩
theorem One.own {p : Option V × S} (h : One F Φ H σ τ p) {a : Addr} (e : holds p = some a) : Φ a = none ∧ ∃ o, Ow F.G Φ H a o := by
  obtain ⟨v, s⟩ := p
  obtain ⟨e1, e2⟩ := holds_some e
  simp only at e1 e2
  rcases e2 with ⟨o, rfl⟩ | ⟨j, o, rfl⟩
  · obtain ⟨b, e3, q1, q2, _⟩ := h
    rw [e1] at e3; cases e3
    exact ⟨q2, o, q1⟩
  · obtain ⟨b, e3, q1, q2, _⟩ := h
    rw [e1] at e3; cases e3
    exact ⟨q2, o, q1⟩
theorem Ow.step {G : Gx} {a : Addr} {o : O} (h : Ow G Φ H a o) (l : Le Φ Φ') (e : ∀ u, H a = some u → (∀ ps, u ≠ .tbl ps) → H' a = some u) : Ow G Φ' H' a o := by
  cases o with
  | lst xs =>
    obtain ⟨vs, e1, e2⟩ := h
    exact ⟨vs, e _ e1 (fun _ z => by cases z), FzL.le l e2⟩
  | ins c fs =>
    obtain ⟨C, dx, vs, e1, e2, e3⟩ := h
    exact ⟨C, dx, vs, e _ e1 (fun _ z => by cases z), e2, FzF.le l e3⟩
/-- all but tables kept -/
def Keep (H H' : Hp) : Prop := ∀ b o, H b = some o → (∀ ps, o ≠ .tbl ps) → H' b = some o
theorem Keep.of (h : ∀ b o, H b = some o → H' b = some o) : Keep H H' := fun b o e _ => h b o e
theorem keep_upd {p : Addr} {o : HO} (h : H p = none) : Keep H (upd H p o) := fun b u e _ => by
  rw [upd_ne (ne_of_none e h)]
  exact e
theorem le_upd {p : Addr} {o : HO} (h : H p = none) : Le H (upd H p o) := fun b u e => by
  rw [upd_ne (ne_of_none e h)]
  exact e
theorem One.step {p : Option V × S} (h : One F Φ H σ τ p) (l : Le Φ Φ') (k : ∀ a, holds p = some a → (∀ u, H a = some u → (∀ ps, u ≠ .tbl ps) → H' a = some u) ∧ Φ' a = none) : One F Φ' H' σ τ p := by
  obtain ⟨v, s⟩ := p
  cases s with
  | non => trivial
  | val d => obtain ⟨x, e, q⟩ := h; exact ⟨x, e, Fz.le l q⟩
  | own o =>
    obtain ⟨a, e, q1, q2, q3⟩ := h
    subst e
    obtain ⟨k1, k2⟩ := k a rfl
    exact ⟨a, rfl, q1.step l k1, k2, q3⟩
  | lent j o =>
    obtain ⟨a, e, q1, q2, q3⟩ := h
    subst e
    obtain ⟨k1, k2⟩ := k a rfl
    exact ⟨a, rfl, q1.step l k1, k2, q3⟩
  | ali i => exact h
  | raw => exact h
/-- the heap grows, the world grows by what is new -/
theorem Rl.grow (r : Rl F Φ H σ τ tm) (l : Le Φ Φ') (l' : Le Φ' H') (k : Keep H H') (n : ∀ b o, Φ' b = some o → Φ b = some o ∨ H b = none) (t : TabsN F.G.T Φ' H') (d : ∀ b, H' b = none → H b = none) : Rl F Φ' H' σ τ tm where
  len := r.len
  fl := r.fl
  le0 := r.le0.trans l
  le := l'
  pres := fun b o h1 h2 h3 => k _ _ (r.pres b o h1 h2 h3) h3
  dom := fun b h => r.dom b (d b h)
  new := fun b o h => by
    rcases n b o h with q | q
    · exact r.new b o q
    · exact .inr (r.dom b q)
  one := fun p hp => (r.one p hp).step l fun a ha => ⟨fun u e z => k _ _ e z, by
    obtain ⟨q1, o, q2⟩ := (r.one p hp).own ha
    obtain ⟨u, q3, _⟩ := q2.there
    cases e : Φ' a with
    | none => rfl
    | some w =>
      rcases n a w e with z | z
      · rw [q1] at z; cases z
      · rw [q3] at z; cases z⟩
  nd := r.nd
  tabs := t
theorem tabs_upd {T : List (Addr × Str)} {p : Addr} {o : HO} (t : LamX.Tabs T H) (h : H p = none) : LamX.Tabs T (upd H p o) := t.ext fun b u e => le_upd h b u e
theorem none_upd {p : Addr} {o : HO} : ∀ b, upd H p o b = none → H b = none := fun b h => by
  by_cases e : b = p
  · subst e; rw [upd_same] at h; cases h
  · rw [upd_ne e] at h; exact h
/-- a new object beside the world -/
theorem Rl.beside (r : Rl F Φ H σ τ tm) {p : Addr} {o : HO} (h : H p = none) : Rl F Φ (upd H p o) σ τ tm :=
  r.grow (Le.refl _) (r.le.trans (le_upd h)) (keep_upd h) (fun _ _ e => .inl e) ⟨tabs_upd r.tabs.1 h, r.tabs.2⟩ none_upd
theorem Rl.fre (r : Rl F Φ H σ τ tm) {p : Addr} (h : H p = none) : Φ p = none := by
  cases e : Φ p with
  | none => rfl
  | some o => rw [r.le _ _ e] at h; cases h
/-- a new object of the world -/
theorem Rl.within (r : Rl F Φ H σ τ tm) {p : Addr} {o : HO} (h : H p = none) (ho : ∀ ps, o ≠ .tbl ps := by intro ps h; cases h) : Rl F (upd Φ p o) (upd H p o) σ τ tm := by
  refine r.grow (le_upd (r.fre h)) (fun a u e => ?_) (keep_upd h) (fun b u e => ?_) ⟨tabs_upd r.tabs.1 h, fun b ps e => ?_⟩ none_upd
  · by_cases q : a = p
    · subst q; rw [upd_same] at e ⊢; exact e
    · rw [upd_ne q] at e ⊢; exact r.le _ _ e
  · by_cases q : b = p
    · subst q; exact .inr h
    · rw [upd_ne q] at e; exact .inl e
  · by_cases q : b = p
    · subst q; rw [upd_same] at e; exact ho ps (Option.some.inj e)
    · rw [upd_ne q] at e; exact r.tabs.2 b ps e
/-- what is in the air, otherwise arranged or less -/
theorem Rl.air (r : Rl F Φ H σ τ tm) (s : Subp tm' tm) : Rl F Φ H σ τ tm' := by
  have s2 : Subp (both σ τ tm') (both σ τ tm) := by
    obtain ⟨l, p, q⟩ := s
    exact ⟨σ.zip τ ++ l, p.append_left _, q.append_left _⟩
  obtain ⟨l, p, q⟩ := s2
  exact ⟨r.len, r.fl, r.le0, r.le, r.pres, r.dom, r.new, fun x hx => r.one x (q.subset (p.mem_iff.mpr hx)), (p.pairwise_iff (fun h => Apart.symm h)).mp (r.nd.sublist q), r.tabs⟩
theorem Rl.none' (r : Rl F Φ H σ τ tm) : Rl F Φ H σ τ [] := r.air (.of (List.nil_sublist _))
theorem Rl.tl {p : Option V × S} (r : Rl F Φ H σ τ (p :: tm)) : Rl F Φ H σ τ tm := r.air (.of (List.sublist_cons_self _ _))
theorem Rl.hd {p : Option V × S} (r : Rl F Φ H σ τ (p :: tm)) : One F Φ H σ τ p := r.one p (List.mem_append_right _ List.mem_cons_self)
/-- more in the air -/
theorem Rl.put (r : Rl F Φ H σ τ tm) {p : Option V × S} (h : One F Φ H σ τ p) (n : ∀ q ∈ both σ τ tm, Apart p q) : Rl F Φ H σ τ (p :: tm) := by
  have pm : (both σ τ (p :: tm)).Perm (p :: both σ τ tm) := List.perm_middle
  refine ⟨r.len, r.fl, r.le0, r.le, r.pres, r.dom, r.new, fun q hq => ?_, (pm.pairwise_iff fun h => Apart.symm h).mpr (List.pairwise_cons.mpr ⟨n, r.nd⟩), r.tabs⟩
  rcases List.mem_cons.mp (pm.mem_iff.mp hq) with e | hq
  · rw [e]; exact h
  · exact r.one q hq
theorem apart_none {p q : Option V × S} (h : holds p = none) : Apart p q := fun a e => by rw [h] at e; cases e
theorem holds_val {v : Option V} {d : D} : holds (v, .val d) = none := by cases v with
  | none => rfl
  | some x => cases x <;> rfl
theorem holds_ali {v : Option V} {i : Nat} : holds (v, .ali i) = none := by cases v with
  | none => rfl
  | some x => cases x <;> rfl
theorem holds_non {v : Option V} : holds (v, .non) = none := by cases v with
  | none => rfl
  | some x => cases x <;> rfl
theorem Rl.val (r : Rl F Φ H σ τ tm) {v : V} {d : D} (h : Fz F.G Φ v d) : Rl F Φ H σ τ ((some v, .val d) :: tm) := r.put (p := (some v, .val d)) ⟨v, rfl, h⟩ fun _ _ => apart_none holds_val
/-- a new list of ours -/
theorem Rl.mine (r : Rl F Φ H σ τ tm) {p : Addr} {vs : List V} {ds : List D} (h : H p = none) (q : FzL F.G Φ vs ds) : Rl F Φ (upd H p (.lst vs)) σ τ ((some (.ref p), .own (.lst ds)) :: tm) := by
  refine (r.beside h).put (p := (some (.ref p), .own (.lst ds))) ⟨p, rfl, ⟨vs, upd_same, q⟩, r.fre h, r.dom _ h⟩ fun e he a ha hq => ?_
  cases ha
  obtain ⟨_, o, q2⟩ := (r.one e he).own hq
  obtain ⟨u, q3, _⟩ := q2.there
  rw [h] at q3; cases q3
/-- a new tuple of the world -/
theorem Rl.tuple (r : Rl F Φ H σ τ tm) {p : Addr} {vs : List V} {ds : List D} (h : H p = none) (q : FzL F.G Φ vs ds) : Rl F (upd Φ p (.tup vs)) (upd H p (.tup vs)) σ τ ((some (.ref p), .val (.tup ds)) :: tm) :=
  (r.within h).val (.tup (.inl (.inl upd_same)) (FzL.le (le_upd (r.fre h)) q))

theorem zip_set {α β : Type} : ∀ {l : List α} {m : List β} {i : Nat} {x : α} {y : β}, (l.set i x).zip (m.set i y) = (l.zip m).set i (x, y)
  | [], _, _, _, _ => by simp
  | _ :: _, [], _, _, _ => by simp
  | _ :: _, _ :: _, 0, _, _ => rfl
  | a :: l, b :: m, i + 1, x, y => by
    show (a, b) :: (l.set i x).zip (m.set i y) = (a, b) :: (l.zip m).set i (x, y)
    rw [zip_set]
theorem pw_set {α : Type} {Rr : α → α → Prop} (sy : ∀ {a b}, Rr a b → Rr b a) {p : α} : ∀ {l : List α} {i : Nat}, (p :: l).Pairwise Rr → (l.set i p).Pairwise Rr
  | [], _, _ => List.Pairwise.nil
  | q :: l, 0, h => by
    obtain ⟨h1, h2⟩ := List.pairwise_cons.mp h
    exact List.pairwise_cons.mpr ⟨fun x hx => h1 x (List.mem_cons_of_mem _ hx), (List.pairwise_cons.mp h2).2⟩
  | q :: l, i + 1, h => by
    obtain ⟨h1, h2⟩ := List.pairwise_cons.mp h
    obtain ⟨h3, h4⟩ := List.pairwise_cons.mp h2
    refine List.pairwise_cons.mpr ⟨fun x hx => ?_, pw_set sy (List.pairwise_cons.mpr ⟨fun x hx => h1 x (List.mem_cons_of_mem _ hx), h4⟩)⟩
    rcases List.mem_or_eq_of_mem_set hx with e | e
    · exact h3 x e
    · rw [e]; exact sy (h1 q List.mem_cons_self)
theorem One.slots {σ' : L2.St} {τ' : List S} {p : Option V × S} (h : One F Φ H σ τ p) (n : p.2.noali) : One F Φ H σ' τ' p := by
  obtain ⟨v, s⟩ := p
  cases s with
  | ali i => exact n.elim
  | _ => exact h
theorem Flat.set (fl : Flat τ) {s : S} (n : s.noali) (i : Nat) : Flat (τ.set i s) := fun x hx => by
  rcases List.mem_or_eq_of_mem_set hx with e | e
  · exact fl x e
  · rw [e]; exact n
/-- a slot takes what is in the air -/
theorem Rl.store {v : V} {s : S} (r : Rl F Φ H σ τ ((some v, s) :: tm)) (n : s.noali) (nt : ∀ p ∈ tm, p.2.noali) (i : Nat) : Rl F Φ H (σ.set i (some v)) (τ.set i s) tm := by
  have pm : (both σ τ ((some v, s) :: tm)).Perm ((some v, s) :: (σ.zip τ ++ tm)) := List.perm_middle
  have pw := (pm.pairwise_iff fun h => Apart.symm h).mp r.nd
  have sz : both (σ.set i (some v)) (τ.set i s) tm = (σ.zip τ).set i (some v, s) ++ tm := by rw [both, zip_set]
  refine ⟨by rw [List.length_set, List.length_set, r.len], r.fl.set n i, r.le0, r.le, r.pres, r.dom, r.new, fun p hp => ?_, ?_, r.tabs⟩
  · rw [sz] at hp
    rcases List.mem_append.mp hp with hp | hp
    · rcases List.mem_or_eq_of_mem_set hp with e | e
      · exact (r.one p (List.mem_append_left _ e)).slots (r.fl _ (List.of_mem_zip e).2)
      · rw [e]
        exact (r.hd).slots n
    · exact (r.tl.one p (List.mem_append_right _ hp)).slots (nt p hp)
  · rw [sz]
    by_cases hi : i < (σ.zip τ).length
    · have e : (σ.zip τ).set i (some v, s) ++ tm = (σ.zip τ ++ tm).set i (some v, s) := (List.set_append_left _ _ hi).symm
      rw [e]
      exact pw_set (fun h => Apart.symm h) pw
    · rw [List.set_eq_of_length_le (by omega)]
      exact (List.pairwise_cons.mp pw).2
/-- the slot i and what it holds -/
theorem Rl.at (r : Rl F Φ H σ τ tm) {i : Nat} {s : S} (h : τ[i]? = some s) : ∃ v, σ[i]? = some v ∧ (v, s) ∈ σ.zip τ ∧ One F Φ H σ τ (v, s) := by
  have hi : i < τ.length := (List.getElem?_eq_some_iff.mp h).1
  have hs : i < σ.length := by rw [r.len]; exact hi
  have e : (σ.zip τ)[i]? = some (σ[i], s) := by
    rw [List.getElem?_zip_eq_some]
    exact ⟨List.getElem?_eq_getElem hs, h⟩
  have m := List.mem_of_getElem? e
  exact ⟨σ[i], List.getElem?_eq_getElem hs, m, r.one _ (List.mem_append_left _ m)⟩
end
end Mi

/-! ### M2: mirrored code and what it says of the code: expressions -/
namespace Mi
open PySem PySem.Spec PyProof.Rows L2

abbrev M.ret {α : Type} (a : α) : M α := fun τ => .ok (a, τ)
def M.bnd {α β : Type} (m : M α) (f : α → M β) : M β := fun τ => match m τ with
  | .ok (a, τ') => f a τ'
  | .exc c fs τ' => .exc c fs τ'
  | .stuck => .stuck
def M.of {α : Type} (o : Option α) : M α := fun τ => match o with
  | some a => .ok (a, τ)
  | none => .stuck

/-- an exception as it lies: its class, its own dict -/
def ExR (F : Fm) (Φ H : Hp) (cls : Value) (d : Option Addr) (c : Str) (fs : List (Str × D)) : Prop :=
  ∃ C, F.G.cls c = some C ∧ cls = .ref C ∧ ((d = none ∧ fs = []) ∨ ∃ dd vs, d = some dd ∧ Φ dd = some (.xd vs) ∧ FzF F.G Φ vs fs)
/-- what an outcome asks -/
def Wp {α : Type} (F : Fm) (W : WX) (tm : Env1) (r : R (α × List S)) (K : α → List S → Prop) : Prop := match r with
  | .ok (a, τ) => K a τ
  | .exc c fs τ => ∀ cls d σ H Φ, Rl F Φ H σ τ tm → ExR F Φ H cls d c fs → W cls d σ H
  | .stuck => False
theorem bnd_ok {α β : Type} {m : M α} {f : α → M β} {τ : List S} {r : β × List S} (h : M.bnd m f τ = .ok r) : ∃ a τ1, m τ = .ok (a, τ1) ∧ f a τ1 = .ok r := by
  unfold M.bnd at h
  cases e : m τ with
  | ok p => rw [e] at h; exact ⟨p.1, p.2, rfl, h⟩
  | exc c fs t => rw [e] at h; cases h
  | stuck => rw [e] at h; cases h
theorem ok_bnd {α β : Type} {m : M α} {f : α → M β} {τ τ1 : List S} {a : α} (h : m τ = .ok (a, τ1)) : M.bnd m f τ = f a τ1 := by
  unfold M.bnd
  rw [h]
section
variable {F : Fm} {W : WX} {tm tm' : Env1} {α β : Type}
theorem Wp.bnd {m : M α} {f : α → M β} {τ : List S} {K : β → List S → Prop} (h : Wp F W tm (M.bnd m f τ) K) : Wp F W tm (m τ) fun a τ' => Wp F W tm (f a τ') K := by
  unfold M.bnd at h
  unfold Wp at h ⊢
  split <;> rename_i e
  · rw [e] at h
    exact h
  · rw [e] at h
    exact h
  · rw [e] at h
    exact h
theorem Wp.mono {r : R (α × List S)} {K K' : α → List S → Prop} (h : Wp F W tm r K) (k : ∀ a τ, K a τ → K' a τ) : Wp F W tm r K' := by
  cases r with
  | ok p => exact k _ _ h
  | exc c fs t => exact h
  | stuck => exact h
theorem Wp.air {r : R (α × List S)} {K : α → List S → Prop} (h : Wp F W tm r K) (s : Subp tm tm') : Wp F W tm' r K := by
  cases r with
  | ok p => exact h
  | exc c fs t => exact fun cls d σ H Φ r x => h cls d σ H Φ (r.air s) x
  | stuck => exact h
theorem Wp.of {o : Option α} {τ : List S} {K : α → List S → Prop} (h : Wp F W tm (M.of o τ) K) : ∃ a, o = some a ∧ K a τ := by
  cases o with
  | none => exact h.elim
  | some a => exact ⟨a, rfl, h⟩
end

/-- what mirrored expressions, tests, argument lists ask -/
def TEm (F : Fm) (W : WX) (m : M S) : L2.TE := fun σ H Q => ∃ Φ τ tm, Rl F Φ H σ τ tm ∧ Wp F W tm (m τ) fun s τ' => ∀ v H' Φ', Rl F Φ' H' σ τ' ((some v, s) :: tm) → Q v H'
def TBm (F : Fm) (W : WX) (m : M Bool) : L2.TT := fun σ H Q => ∃ Φ τ tm, Rl F Φ H σ τ tm ∧ Wp F W tm (m τ) fun b τ' => ∀ H' Φ', Rl F Φ' H' σ τ' tm → Q b H'
def TLm (F : Fm) (W : WX) (m : M (List S)) : L2.TA := fun σ H Q => ∃ Φ τ tm, Rl F Φ H σ τ tm ∧ Wp F W tm (m τ) fun ss τ' => ∀ vs H' Φ', vs.length = ss.length → Rl F Φ' H' σ τ' ((vs.map some).zip ss ++ tm) → Q vs H'
/-- the context fits the frame -/
structure Fits (X : Cx) (F : Fm) (W : WX) : Prop where
  calm : X.calm = true
  nd : X.N.Nodup
  K : X.K = F.G.K
  tk : Takes X W
  own : PassesOwn (model X.prog X.w) X.A X.env X.xe
abbrev EM (X : Cx) (F : Fm) (W : WX) (e : Expr) (m : M S) : Prop := PE X e (TEm F W m)
abbrev BM (X : Cx) (F : Fm) (W : WX) (e : Expr) (m : M Bool) : Prop := PT X e (TBm F W m)
abbrev WM (X : Cx) (F : Fm) (W : WX) (e : Expr) (m : M Bool) : Prop := PW X e (TBm F W m)
abbrev LM (X : Cx) (F : Fm) (W : WX) (es : List Expr) (m : M (List S)) : Prop := PA X es (TLm F W m)

theorem PE.imp {X : Cx} {e : Expr} {t t' : L2.TE} (h : PE X e t) (i : ∀ σ H Q, t' σ H Q → t σ H Q) : PE X e t' := ⟨fun pins s σ H Q I q => h.run pins s σ H Q I (i _ _ _ q)⟩
theorem PT.imp {X : Cx} {e : Expr} {t t' : L2.TT} (h : PT X e t) (i : ∀ σ H Q, t' σ H Q → t σ H Q) : PT X e t' := ⟨fun pins s σ H Q I q => h.run pins s σ H Q I (i _ _ _ q)⟩
theorem PW.imp {X : Cx} {e : Expr} {t t' : L2.TT} (h : PW X e t) (i : ∀ σ H Q, t' σ H Q → t σ H Q) : PW X e t' := ⟨fun wh pins s σ H Q I q => h.run wh pins s σ H Q I (i _ _ _ q)⟩
theorem PA.imp {X : Cx} {e : List Expr} {t t' : L2.TA} (h : PA X e t) (i : ∀ σ H Q, t' σ H Q → t σ H Q) : PA X e t' := ⟨fun pos pins s σ H Q I q => h.run pos pins s σ H Q I (i _ _ _ q)⟩
theorem PS.imp {X : Cx} {e : Stmt} {t t' : L2.TS} (h : PS X e t) (i : ∀ D σ H, t' D σ H → t D σ H) : PS X e t' := ⟨fun pins s σ H D I q => h.run pins s σ H D I (i _ _ _ q)⟩
theorem PSs.imp {X : Cx} {e : List Stmt} {t t' : L2.TS} (h : PSs X e t) (i : ∀ D σ H, t' D σ H → t D σ H) : PSs X e t' := ⟨fun pins s σ H D I q => h.run pins s σ H D I (i _ _ _ q)⟩

/-! ### reading without taking -/
/-- v reads as d -/
def Rdv (F : Fm) (Φ H : Hp) (v : V) (d : D) : Prop := Fz F.G Φ v d ∨ ∃ a o, v = .ref a ∧ d = O.frz o ∧ Ow F.G Φ H a o
def peekS (τ : List S) : S → Option D
  | .val d => some d
  | .own o => some o.frz
  | .ali i => match τ[i]? with
    | some (.val d) => some d
    | some (.own o) => some o.frz
    | some (.lent _ o) => some o.frz
    | _ => none
  | _ => none
def peek (s : S) : M D := fun τ => match peekS τ s with
  | some d => .ok (d, τ)
  | none => .stuck
section
variable {F : Fm} {W : WX} {Φ Φ' H H' : Hp} {σ : L2.St} {τ : List S} {tm : Env1}
theorem Rl.peek (r : Rl F Φ H σ τ tm) {v : V} {s : S} {d : D} (h : One F Φ H σ τ (some v, s)) (e : peekS τ s = some d) : Rdv F Φ H v d := by
  cases s with
  | raw => cases e
  | non => cases e
  | val d' =>
    cases e
    obtain ⟨x, e1, q⟩ := h
    cases e1
    exact .inl q
  | own o =>
    cases e
    obtain ⟨a, e1, q, _⟩ := h
    cases e1
    exact .inr ⟨a, o, rfl, rfl, q⟩
  | lent j o => cases e
  | ali i =>
    obtain ⟨x, s', e1, e2, e3, _⟩ := h
    cases e1
    simp only [peekS, e3] at e
    obtain ⟨w, e4, _, q⟩ := r.at e3
    rw [e2] at e4
    cases e4
    cases s' with
    | raw => cases e
    | non => cases e
    | val d' =>
      cases e
      obtain ⟨y, e5, q⟩ := q
      cases e5
      exact .inl q
    | own o =>
      cases e
      obtain ⟨a, e5, q, _⟩ := q
      cases e5
      exact .inr ⟨a, o, rfl, rfl, q⟩
    | lent j o =>
      cases e
      obtain ⟨a, e5, q, _⟩ := q
      cases e5
      exact .inr ⟨a, o, rfl, rfl, q⟩
    | ali k => cases e
theorem Wp.peek {s : S} {K : D → List S → Prop} (h : Wp F W tm (peek s τ) K) : ∃ d, peekS τ s = some d ∧ K d τ := by
  unfold Mi.peek at h
  cases e : peekS τ s with
  | none => rw [e] at h; exact h.elim
  | some d => rw [e] at h; exact ⟨d, rfl, h⟩
/-- plain ones -/
theorem Rdv.int {v : V} {i : Int} (h : Rdv F Φ H v (.int i)) : v = .int i := by
  rcases h with h | ⟨a, o, _, e, _⟩
  · cases h; rfl
  · cases o <;> cases e
theorem Rdv.bl {v : V} {i : Bool} (h : Rdv F Φ H v (.bl i)) : v = .bl i := by
  rcases h with h | ⟨a, o, _, e, _⟩
  · cases h; rfl
  · cases o <;> cases e
theorem Rdv.str {v : V} {i : Str} (h : Rdv F Φ H v (.str i)) : v = .str i := by
  rcases h with h | ⟨a, o, _, e, _⟩
  · cases h; rfl
  · cases o <;> cases e
theorem Rdv.non {v : V} (h : Rdv F Φ H v .non) : v = .non := by
  rcases h with h | ⟨a, o, _, e, _⟩
  · cases h; rfl
  · cases o <;> cases e
theorem Rdv.lst (l : Le Φ H) {v : V} {xs : List D} (h : Rdv F Φ H v (.lst xs)) : ∃ a vs, v = .ref a ∧ H a = some (.lst vs) ∧ FzL F.G Φ vs xs := by
  rcases h with h | ⟨a, o, e1, e, q⟩
  · cases h with
    | lst h t => exact ⟨_, _, rfl, l _ _ h, t⟩
  · cases o with
    | lst ys =>
      cases e
      obtain ⟨vs, q1, q2⟩ := q
      exact ⟨a, vs, e1, q1, q2⟩
    | ins c fs => cases e
theorem Rdv.scr (l : Le Φ H) {v : V} {xs : List D} (h : Rdv F Φ H v (.scr xs)) : ∃ a vs, v = .ref a ∧ SqL F.G.K H a vs ∧ FzL F.G Φ vs xs := by
  rcases h with h | ⟨a, o, _, e, _⟩
  · cases h with
    | scr h t => exact ⟨_, _, rfl, SqL.le h l, t⟩
  · cases o <;> cases e
theorem Rdv.tup (l : Le Φ H) {v : V} {xs : List D} (h : Rdv F Φ H v (.tup xs)) : ∃ a vs, v = .ref a ∧ SqT F.G.K H a vs ∧ FzL F.G Φ vs xs := by
  rcases h with h | ⟨a, o, _, e, _⟩
  · cases h with
    | tup h t => exact ⟨_, _, rfl, SqT.le h l, t⟩
  · cases o <;> cases e
theorem Rdv.ins (l : Le Φ H) {v : V} {c : Str} {fs : List (Str × D)} (h : Rdv F Φ H v (.ins c fs)) : ∃ a C dx vs, v = .ref a ∧ H a = some (.ins C dx vs) ∧ F.G.cls c = some C ∧ FzF F.G Φ vs fs := by
  rcases h with h | ⟨a, o, e1, e, q⟩
  · cases h with
    | ins h c t => exact ⟨_, _, _, _, rfl, l _ _ h, c, t⟩
  · cases o with
    | lst ys => cases e
    | ins c' fs' =>
      cases e
      obtain ⟨C, dx, vs, q1, q2, q3⟩ := q
      exact ⟨a, C, dx, vs, e1, q1, q2, q3⟩
end

/-! ### taking -/
/-- a value that anyone may keep: what is ours is ours no more -/
def take (s : S) : M D := fun τ => match s with
  | .val d => .ok (d, τ)
  | .own o => .ok (o.frz, τ)
  | .ali i => match τ[i]? with
    | some (.val d) => .ok (d, τ)
    | some (.own o) => .ok (o.frz, τ.set i (.val o.frz))
    | _ => .stuck
  | _ => .stuck
def takeAll : List S → M (List D)
  | [] => M.ret []
  | s :: ss => M.bnd (take s) fun d => M.bnd (takeAll ss) fun ds => M.ret (d :: ds)
section
variable {F : Fm} {W : WX} {Φ Φ' H H' : Hp} {σ : L2.St} {τ τ' : List S} {tm : Env1}
/-- what is ours alone joins the world -/
theorem Ow.fz {G : Gx} {a : Addr} {o : O} (h : Ow G Φ H a o) (l : Le Φ Φ') (e : Φ' a = H a) : Fz G Φ' (.ref a) o.frz := by
  cases o with
  | lst xs =>
    obtain ⟨vs, q1, q2⟩ := h
    exact .lst (e.trans q1) (FzL.le l q2)
  | ins c fs =>
    obtain ⟨C, dx, vs, q1, q2, q3⟩ := h
    exact .ins (e.trans q1) q2 (FzF.le l q3)
/-- the world with a -/
def with1 (Φ H : Hp) (a : Addr) : Hp := fun b => if b = a then H b else Φ b
theorem with1_at {a : Addr} : with1 Φ H a a = H a := if_pos rfl
theorem with1_ne {a b : Addr} (h : b ≠ a) : with1 Φ H a b = Φ b := if_neg h
theorem with1_le {a : Addr} (h : Φ a = none) : Le Φ (with1 Φ H a) := fun b o e => by
  rw [with1_ne]
  · exact e
  · intro q; rw [q, h] at e; cases e
/-- everything but p stands when p joins the world -/
theorem One.join {a : Addr} {p : Option V × S} (hp : One F Φ H σ τ p) (h : Φ a = none) (ap : holds p ≠ some a) : One F (with1 Φ H a) H σ τ p :=
  hp.step (with1_le h) fun b hb => ⟨fun u e _ => e, by
    rw [with1_ne (fun q => ap (by rw [← q]; exact hb))]
    exact (hp.own hb).1⟩
theorem join_le {a : Addr} (l : Le Φ H) : Le (with1 Φ H a) H := fun b o e => by
  by_cases q : b = a
  · subst q; rw [with1_at] at e; exact e
  · rw [with1_ne q] at e; exact l _ _ e
theorem with1_tabs {T : List (Addr × Str)} {G : Gx} {a : Addr} {o : O} (t : TabsN T Φ H) (w : Ow G Φ H a o) : TabsN T (with1 Φ H a) H := ⟨t.1, fun b ps e => by
  by_cases q : b = a
  · subst q
    rw [with1_at] at e
    obtain ⟨u, e1, e2⟩ := w.there
    rw [e1] at e
    exact e2 ps (Option.some.inj e)
  · rw [with1_ne q] at e; exact t.2 b ps e⟩
theorem Rl.taken (r : Rl F Φ H σ τ ((some v, s) :: tm)) {d : D} (e : take s τ = .ok (d, τ')) : ∃ Φ', Rl F Φ' H σ τ' ((some v, .val d) :: tm) := by
  cases s with
  | raw => cases e
  | non => cases e
  | val d' =>
    cases e
    exact ⟨Φ, r⟩
  | lent j o => cases e
  | own o =>
    cases e
    obtain ⟨a, e1, q1, q2, q3⟩ := r.hd
    cases e1
    refine ⟨with1 Φ H a, ?_⟩
    have pm : (both σ τ ((some (.ref a), .own o) :: tm)).Perm ((some (.ref a), .own o) :: both σ τ tm) := List.perm_middle
    obtain ⟨n1, n2⟩ := List.pairwise_cons.mp ((pm.pairwise_iff fun h => Apart.symm h).mp r.nd)
    have base : Rl F (with1 Φ H a) H σ τ tm := ⟨r.len, r.fl, r.le0.trans (with1_le q2), join_le r.le, r.pres, r.dom, fun b o h => by
      by_cases q : b = a
      · subst q; exact .inr q3
      · rw [with1_ne q] at h; exact r.new b o h, fun p hp => (r.one p (pm.mem_iff.mpr (List.mem_cons_of_mem _ hp))).join q2 (n1 p hp a rfl), n2, with1_tabs r.tabs q1⟩
    exact base.val (q1.fz (with1_le q2) with1_at)
  | ali i =>
    obtain ⟨x, s', e1, e2, e3, _⟩ := r.hd
    cases e1
    unfold take at e
    simp only [e3] at e
    obtain ⟨w, e4, em, q⟩ := r.at e3
    rw [e2] at e4
    cases e4
    cases s' with
    | raw => cases e
    | non => cases e
    | lent j o => cases e
    | ali k => cases e
    | val d' =>
      cases e
      obtain ⟨y, e5, q⟩ := q
      cases e5
      exact ⟨Φ, r.tl.val q⟩
    | own o =>
      cases e
      obtain ⟨a, e5, q1, q2, q3⟩ := q
      cases e5
      refine ⟨with1 Φ H a, ?_⟩
      -- the slot, changed
      have hi : i < τ.length := (List.getElem?_eq_some_iff.mp e3).1
      have hs : σ.set i (some (V.ref a)) = σ := by
        apply List.ext_getElem?
        intro j
        by_cases hj : i = j
        · subst hj
          rw [List.getElem?_set_self (by rw [r.len]; exact hi)]
          exact e2.symm
        · rw [List.getElem?_set_ne hj]
      have hz : σ.zip (τ.set i (.val o.frz)) = (σ.zip τ).set i (some (.ref a), .val o.frz) := by
        rw [← zip_set, hs]
      have rt := r.tl
      have ix : (σ.zip τ)[i]? = some (some (.ref a), .own o) := by
        rw [List.getElem?_zip_eq_some]
        exact ⟨e2, e3⟩
      have hit : i < (σ.zip τ).length := (List.getElem?_eq_some_iff.mp ix).1
      -- all others are apart from it
      have ap : ∀ (j : Nat) p, (both σ τ tm)[j]? = some p → j ≠ i → holds p ≠ some a := fun j p hj ne => by
        have pw := List.pairwise_iff_getElem.mp rt.nd
        have ei : (both σ τ tm)[i]? = some (some (.ref a), .own o) := by
          rw [List.getElem?_append_left hit]; exact ix
        obtain ⟨li, gi⟩ := List.getElem?_eq_some_iff.mp ei
        obtain ⟨lj, gj⟩ := List.getElem?_eq_some_iff.mp hj
        intro hp
        rcases Nat.lt_or_gt_of_ne ne with l | l
        · have := pw j i lj li l
          rw [gi, gj] at this
          exact this a hp rfl
        · have := pw i j li lj l
          rw [gi, gj] at this
          exact this a rfl hp
      have sz : both σ (τ.set i (.val o.frz)) tm = (both σ τ tm).set i (some (.ref a), .val o.frz) := by
        show σ.zip (τ.set i (.val o.frz)) ++ tm = (σ.zip τ ++ tm).set i _
        rw [hz, List.set_append_left _ _ hit]
      have vfz : Fz F.G (with1 Φ H a) (.ref a) o.frz := q1.fz (with1_le q2) with1_at
      have ones : ∀ p ∈ both σ (τ.set i (.val o.frz)) tm, One F (with1 Φ H a) H σ (τ.set i (.val o.frz)) p := fun p hp => by
        rw [sz] at hp
        obtain ⟨j, lj, gj⟩ := List.getElem_of_mem hp
        rw [List.length_set] at lj
        by_cases hj : i = j
        · subst hj
          rw [List.getElem_set_self] at gj
          rw [← gj]
          exact ⟨_, rfl, vfz⟩
        · rw [List.getElem_set_ne hj] at gj
          have gj' : (both σ τ tm)[j]? = some p := by rw [List.getElem?_eq_getElem lj, gj]
          have o1 := (rt.one p (by rw [← gj]; exact List.getElem_mem _)).join (a := a) q2 (ap j p gj' (Ne.symm hj))
          obtain ⟨pv, ps⟩ := p
          cases ps with
          | ali k =>
            obtain ⟨x, s2, f1, f2, f3, f4⟩ := o1
            by_cases hk : i = k
            · subst hk
              refine ⟨x, .val o.frz, f1, f2, ?_, trivial⟩
              rw [List.getElem?_set_self hi]
            · exact ⟨x, s2, f1, f2, by rw [List.getElem?_set_ne hk]; exact f3, f4⟩
          | raw => exact o1
          | non => exact o1
          | val _ => exact o1
          | own _ => exact o1
          | lent _ _ => exact o1
      have pwn : (both σ (τ.set i (.val o.frz)) tm).Pairwise Apart := by
        rw [sz]
        exact pw_set (fun h => Apart.symm h) (List.pairwise_cons.mpr ⟨fun _ _ => apart_none holds_val, rt.nd⟩)
      have base : Rl F (with1 Φ H a) H σ (τ.set i (.val o.frz)) tm := ⟨by rw [List.length_set]; exact r.len, r.fl.set (s := .val o.frz) trivial i, r.le0.trans (with1_le q2), join_le r.le, r.pres, r.dom, fun b o h => by
        by_cases q : b = a
        · subst q; exact .inr q3
        · rw [with1_ne q] at h; exact r.new b o h, ones, pwn, with1_tabs r.tabs q1⟩
      exact base.val vfz
theorem take_cases {s : S} {K : D → List S → Prop} (h : Wp F W tm (take s τ) K) : ∃ d τ', take s τ = .ok (d, τ') ∧ K d τ' := by
  cases e : take s τ with
  | ok p => rw [e] at h; exact ⟨p.1, p.2, rfl, h⟩
  | stuck => rw [e] at h; exact h.elim
  | exc c fs t =>
    exfalso
    unfold take at e
    split at e <;> (first | (cases e; done) | (split at e <;> cases e))
/-- all of a list are taken -/
theorem Rl.takenAll : ∀ {ss : List S} {vs : List V} {Φ : Hp} {τ τ' : List S} {tm : Env1} {ds : List D}, vs.length = ss.length → Rl F Φ H σ τ ((vs.map some).zip ss ++ tm) → takeAll ss τ = .ok (ds, τ') → ∃ Φ', Rl F Φ' H σ τ' tm ∧ FzL F.G Φ' vs ds
  | [], [], Φ, τ, τ', tm, ds, _, r, e => by
    cases e
    exact ⟨Φ, r, .nil⟩
  | s :: ss, v :: vs, Φ, τ, τ', tm, ds, l, r, e => by
    obtain ⟨d, τ1, e1, e⟩ := bnd_ok e
    obtain ⟨ds', τ2, e2, e⟩ := bnd_ok e
    cases e
    obtain ⟨Φ1, r1⟩ := Rl.taken r e1
    have r2 : Rl F Φ1 H σ τ1 ((vs.map some).zip ss ++ ((some v, .val d) :: tm)) := r1.air (.perm (by
      show ((some v, S.val d) :: ((vs.map some).zip ss ++ tm)).Perm _
      exact List.perm_middle.symm))
    obtain ⟨Φ2, r3, q⟩ := Rl.takenAll (by simpa using l) r2 e2
    obtain ⟨x, e3, q3⟩ := r3.hd
    cases e3
    exact ⟨Φ2, r3.tl, .cons q3 q⟩
theorem takeAll_cases : ∀ {ss : List S} {τ : List S} {K : List D → List S → Prop}, Wp F W tm (takeAll ss τ) K → ∃ ds τ', takeAll ss τ = .ok (ds, τ') ∧ K ds τ'
  | [], τ, K, h => ⟨[], τ, rfl, h⟩
  | s :: ss, τ, K, h => by
    obtain ⟨d, τ1, e1, h1⟩ := take_cases h.bnd
    obtain ⟨ds, τ2, e2, h2⟩ := takeAll_cases h1.bnd
    exact ⟨d :: ds, τ2, (ok_bnd e1).trans ((ok_bnd e2).trans rfl), h2⟩
end
end Mi

/-! ### M3: rules for expressions -/
namespace Mi
open PySem PySem.Spec PyProof.Rows L2
section
variable {X : Cx} {F : Fm} {W : WX} {Φ Φ' H H' : Hp} {σ : L2.St} {τ τ' : List S} {tm : Env1}

theorem te_go {Q : VK} {ma : M S} {tm0 : Env1} {P : S → List S → Prop} (r : Rl F Φ H σ τ tm) (h : Wp F W tm0 (ma τ) P) (k : ∀ s τ1 v H1 Φ1, P s τ1 → Rl F Φ1 H1 σ τ1 ((some v, s) :: tm) → Q v H1) (sub : Subp tm0 tm := by repeat (first | exact Subp.of (List.Sublist.refl _) | apply Subp.cons' | apply Subp.app')) : TEm F W ma σ H Q :=
  ⟨Φ, τ, tm, r, (h.air sub).mono fun s τ1 p v H1 Φ1 r1 => k s τ1 v H1 Φ1 p r1⟩
theorem tb_go {Q : Bool → Hp → Prop} {ma : M Bool} {tm0 : Env1} {P : Bool → List S → Prop} (r : Rl F Φ H σ τ tm) (h : Wp F W tm0 (ma τ) P) (k : ∀ b τ1 H1 Φ1, P b τ1 → Rl F Φ1 H1 σ τ1 tm → Q b H1) (sub : Subp tm0 tm := by repeat (first | exact Subp.of (List.Sublist.refl _) | apply Subp.cons' | apply Subp.app')) : TBm F W ma σ H Q :=
  ⟨Φ, τ, tm, r, (h.air sub).mono fun s τ1 p H1 Φ1 r1 => k s τ1 H1 Φ1 p r1⟩
theorem tl_go {Q : List V → Hp → Prop} {ma : M (List S)} {tm0 : Env1} {P : List S → List S → Prop} (r : Rl F Φ H σ τ tm) (h : Wp F W tm0 (ma τ) P) (k : ∀ ss τ1 vs H1 Φ1, P ss τ1 → vs.length = ss.length → Rl F Φ1 H1 σ τ1 ((vs.map some).zip ss ++ tm) → Q vs H1) (sub : Subp tm0 tm := by repeat (first | exact Subp.of (List.Sublist.refl _) | apply Subp.cons' | apply Subp.app')) : TLm F W ma σ H Q :=
  ⟨Φ, τ, tm, r, (h.air sub).mono fun s τ1 p vs H1 Φ1 l r1 => k s τ1 vs H1 Φ1 p l r1⟩

/-! #### constants, names -/
def eLit (d : D) : M S := M.ret (.val d)
theorem em_int {i j pos} : EM X F W (.Constant (.int i) j pos) (eLit (.int i)) := PE.imp pe_int fun σ H Q ⟨Φ, τ, tm, r, h⟩ => h _ _ _ (r.val (.int i))
theorem em_bl {b j pos} : EM X F W (.Constant (.bool b) j pos) (eLit (.bl b)) := PE.imp pe_bl fun σ H Q ⟨Φ, τ, tm, r, h⟩ => h _ _ _ (r.val (.bl b))
theorem em_non {j pos} : EM X F W (.Constant .none j pos) (eLit .non) := PE.imp pe_non fun σ H Q ⟨Φ, τ, tm, r, h⟩ => h _ _ _ (r.val .non)
theorem em_str {x j pos} : EM X F W (.Constant (.str x) j pos) (eLit (.str x)) := PE.imp pe_str fun σ H Q ⟨Φ, τ, tm, r, h⟩ => h _ _ _ (r.val (.str x))
def eVar (i : Nat) : M S := fun τ => match τ[i]? with
  | some (.val d) => .ok (.val d, τ)
  | some (.own _) => .ok (.ali i, τ)
  | some (.lent _ _) => .ok (.ali i, τ)
  | _ => .stuck
theorem em_var (i : Nat) {x : Str} {pos : Pos} (hN : X.N[i]? = some x := by rfl) (hv : Vis X.env.scope x := by first | exact Or.inl rfl | exact Or.inr (Or.inl rfl) | exact Or.inr (Or.inr rfl)) (hd : (x == ("__debug__" : Str)) = false := by decide)
    (hcd : (x == ("__classdict__" : Str)) = false := by decide) : EM X F W (.Name x pos) (eVar i) := by
  refine PE.imp (pe_var hN hv hd hcd) fun σ H Q ⟨Φ, τ, tm, r, h⟩ => ?_
  unfold eVar at h
  cases e : τ[i]? with
  | none => rw [e] at h; exact h.elim
  | some s =>
    rw [e] at h
    obtain ⟨v, e1, em, o⟩ := r.at e
    cases s with
    | raw => exact h.elim
    | non => exact h.elim
    | ali k => exact h.elim
    | val d =>
      obtain ⟨x, e2, q⟩ := o
      subst e2
      exact ⟨x, e1, h x H Φ (r.val q)⟩
    | own o' =>
      obtain ⟨a, e2, q⟩ := o
      subst e2
      exact ⟨.ref a, e1, h (.ref a) H Φ (r.put (p := (some (.ref a), .ali i)) ⟨.ref a, .own o', rfl, e1, e, trivial⟩ fun _ _ => apart_none holds_ali)⟩
    | lent j o' =>
      obtain ⟨a, e2, q⟩ := o
      subst e2
      exact ⟨.ref a, e1, h (.ref a) H Φ (r.put (p := (some (.ref a), .ali i)) ⟨.ref a, .lent j o', rfl, e1, e, trivial⟩ fun _ _ => apart_none holds_ali)⟩

/-! #### what an operation by values does -/
/-- the operation f, by plain data, is what r asks -/
def OpS (F : Fm) (f : D → D → Option S) (r : R2) : Prop := ∀ {Φ H : Hp} {σ : L2.St} {τ : List S} {tm : Env1} {v w : V} {d e : D} {s : S} {Q : VK}, Rl F Φ H σ τ tm → Rdv F Φ H v d → Rdv F Φ H w e → f d e = some s →
  (∀ x H' Φ', Rl F Φ' H' σ τ ((some x, s) :: tm) → Q x H') → r v w H Q
def UnS (F : Fm) (f : D → Option S) (r : V → Hp → VK → Prop) : Prop := ∀ {Φ H : Hp} {σ : L2.St} {τ : List S} {tm : Env1} {v : V} {d : D} {s : S} {Q : VK}, Rl F Φ H σ τ tm → Rdv F Φ H v d → f d = some s →
  (∀ x H' Φ', Rl F Φ' H' σ τ ((some x, s) :: tm) → Q x H') → r v H Q
inductive RdAll (F : Fm) (Φ H : Hp) : List V → List D → Prop
  | nil : RdAll F Φ H [] []
  | cons {v : V} {d : D} {vs : List V} {ds : List D} : Rdv F Φ H v d → RdAll F Φ H vs ds → RdAll F Φ H (v :: vs) (d :: ds)
def CaS (F : Fm) (f : List D → Option S) (r : List V → Hp → VK → Prop) : Prop := ∀ {Φ H : Hp} {σ : L2.St} {τ : List S} {tm : Env1} {vs : List V} {ds : List D} {s : S} {Q : VK}, Rl F Φ H σ τ tm → RdAll F Φ H vs ds → f ds = some s →
  (∀ x H' Φ', Rl F Φ' H' σ τ ((some x, s) :: tm) → Q x H') → r vs H Q
def peekAll : List S → M (List D)
  | [] => M.ret []
  | s :: ss => M.bnd (peek s) fun d => M.bnd (peekAll ss) fun ds => M.ret (d :: ds)
theorem peek_ok {s : S} {d : D} (h : peek s τ = .ok (d, τ')) : peekS τ s = some d ∧ τ' = τ := by
  unfold peek at h
  cases e : peekS τ s with
  | none => rw [e] at h; cases h
  | some d' => rw [e] at h; cases h; exact ⟨rfl, rfl⟩
theorem Rl.peekAll {tm0 : Env1} : ∀ {ss : List S} {vs : List V} {K : List D → List S → Prop} {tm : Env1}, vs.length = ss.length → Rl F Φ H σ τ ((vs.map some).zip ss ++ tm) → Wp F W tm0 (peekAll ss τ) K → ∃ ds, RdAll F Φ H vs ds ∧ K ds τ
  | [], [], K, tm, _, _, h => ⟨[], .nil, h⟩
  | s :: ss, v :: vs, K, tm, l, r, h => by
    obtain ⟨d, e1, h1⟩ := Wp.peek h.bnd
    obtain ⟨ds, q, k⟩ := Rl.peekAll (tm := tm) (by simpa using l) (r.air (.of (by
      show ((vs.map some).zip ss ++ tm).Sublist ((some v, s) :: ((vs.map some).zip ss ++ tm))
      exact List.sublist_cons_self _ _))) h1.bnd
    exact ⟨d :: ds, .cons (r.peek (r.one (some v, s) (List.mem_append_right _ List.mem_cons_self)) e1) q, k⟩

def eOp (f : D → D → Option S) (ma mb : M S) : M S := M.bnd ma fun s => M.bnd mb fun t => M.bnd (peek s) fun d => M.bnd (peek t) fun e => M.of (f d e)
theorem t_op {f : D → D → Option S} {r : R2} (hf : OpS F f r) {ma mb : M S} {Q : VK} (h : TEm F W (eOp f ma mb) σ H Q) : tOp r (TEm F W ma) (TEm F W mb) σ H Q := by
  obtain ⟨Φ, τ, tm, rl, h⟩ := h
  refine te_go rl h.bnd fun s τ1 v H1 Φ1 p1 r1 => te_go r1 p1.bnd fun t τ2 w H2 Φ2 p2 r2 => ?_
  obtain ⟨d, e1, p3⟩ := Wp.peek p2.bnd
  obtain ⟨e, e2, p4⟩ := Wp.peek p3.bnd
  obtain ⟨u, e3, k⟩ := Wp.of p4
  exact hf r2.tl.tl (r2.peek (r2.one (some v, s) (List.mem_append_right _ (List.mem_cons_of_mem _ List.mem_cons_self))) e1) (r2.peek r2.hd e2) e3 fun x H' Φ' r' => k x H' Φ' r'
variable {a b : Expr} {ma mb : M S} {pos : Pos}
theorem em_op {op : Operator} {f : D → D → Option S} {r : R2} (ho : OpR X (binaryOp op) r) (hf : OpS F f r) (ha : EM X F W a ma) (hb : EM X F W b mb) : EM X F W (.BinOp a op b pos) (eOp f ma mb) := PE.imp (pe_op ho ha hb) fun _ _ _ h => t_op hf h
theorem em_cmp {op : CmpOp} {f : D → D → Option S} {r : R2} (ho : OpR X (compareOp op) r) (hf : OpS F f r) (ha : EM X F W a ma) (hb : EM X F W b mb) (hm : behindInMarks op b = false) : EM X F W (.Compare a [op] [b] pos) (eOp f ma mb) := PE.imp (pe_cmpR ho ha hb hm) fun _ _ _ h => t_op hf h
theorem em_ix {f : D → D → Option S} {r : R2} (ho : IxR X r) (hf : OpS F f r) (ha : EM X F W a ma) (hb : EM X F W b mb) (hs : PlainIx b := by exact fun _ _ => rfl) : EM X F W (.Subscript a b pos) (eOp f ma mb) := PE.imp (pe_ix ho ha hb hs) fun _ _ _ h => t_op hf h
def eUn (f : D → Option S) (ma : M S) : M S := M.bnd ma fun s => M.bnd (peek s) fun d => M.of (f d)
theorem t_un {f : D → Option S} {r : V → Hp → VK → Prop} (hf : UnS F f r) {Q : VK} (h : TEm F W (eUn f ma) σ H Q) : TEm F W ma σ H fun x H1 => r x H1 Q := by
  obtain ⟨Φ, τ, tm, rl, h⟩ := h
  refine te_go rl h.bnd fun s τ1 v H1 Φ1 p1 r1 => ?_
  obtain ⟨d, e1, p2⟩ := Wp.peek p1.bnd
  obtain ⟨u, e3, k⟩ := Wp.of p2
  exact hf r1.tl (r1.peek r1.hd e1) e3 fun x H' Φ' r' => k x H' Φ' r'
theorem em_un {op : UnaryOp} {f : D → Option S} {r : V → Hp → VK → Prop} (ho : UnR X (unaryOp op) r) (hf : UnS F f r) (ha : EM X F W a ma) : EM X F W (.UnaryOp op a pos) (eUn f ma) := PE.imp (pe_un ho ha) fun _ _ _ h => t_un hf h

/-! #### truth -/
def asB : S → Option Bool
  | .val (.bl b) => some b
  | _ => none
def bVal (ma : M S) : M Bool := M.bnd ma fun s => M.of (asB s)
theorem one_bl {v : V} {s : S} {b : Bool} (h : One F Φ H σ τ (some v, s)) (e : asB s = some b) : v = .bl b := by
  cases s with
  | val d =>
    cases d with
    | bl b' =>
      cases e
      obtain ⟨x, e1, q⟩ := h
      cases e1
      cases q
      rfl
    | _ => cases e
  | _ => cases e
theorem t_val {Q : Bool → Hp → Prop} (h : TBm F W (bVal ma) σ H Q) : TEm F W ma σ H fun x H1 => ∃ c, x = .bl c ∧ Q c H1 := by
  obtain ⟨Φ, τ, tm, rl, h⟩ := h
  refine te_go rl h.bnd fun s τ1 v H1 Φ1 p1 r1 => ?_
  obtain ⟨b, e, k⟩ := Wp.of p1
  exact ⟨b, one_bl r1.hd e, k H1 Φ1 r1.tl⟩
theorem bm_val (ha : EM X F W a ma) (he : ∀ whole, isTrue a X.env whole = (do let v ← whole; standAt a.pos; holding [v] (truthy v)) := by intro _; rfl) : BM X F W a (bVal ma) := PT.imp (pt_val ha he) fun _ _ _ h => t_val h
theorem bm_cmp {op : CmpOp} {f : D → D → Option S} {r : R2} (ho : OpR X (compareOp op) r) (hf : OpS F f r) (ha : EM X F W a ma) (hb : EM X F W b mb) (hm : behindInMarks op b = false) : BM X F W (.Compare a [op] [b] pos) (bVal (eOp f ma mb)) :=
  PT.imp (pt_cmpR ho ha hb hm) fun _ _ _ h => t_op hf (t_val h)
def bNot (m : M Bool) : M Bool := M.bnd m fun b => M.ret (!b)
def bAnd (m n : M Bool) : M Bool := M.bnd m fun b => if b = true then n else M.ret false
def bOr (m n : M Bool) : M Bool := M.bnd m fun b => if b = true then M.ret true else n
variable {m n : M Bool} {rest : List Expr}
theorem bm_not (h : BM X F W a m) : BM X F W (.UnaryOp .Not a pos) (bNot m) := PT.imp (pt_not h) fun σ H Q ⟨Φ, τ, tm, rl, h⟩ => tb_go rl h.bnd fun b τ1 H1 Φ1 p1 r1 => p1 H1 Φ1 r1
theorem wm_and1 (h : BM X F W a m) : WM X F W (.BoolOp .And [a] pos) m := pw_and1 h
theorem wm_or1 (h : BM X F W a m) : WM X F W (.BoolOp .Or [a] pos) m := pw_or1 h
theorem wm_and (h : BM X F W a m) (hr : WM X F W (.BoolOp .And (b :: rest) pos) n) : WM X F W (.BoolOp .And (a :: b :: rest) pos) (bAnd m n) := PW.imp (pw_and h hr) fun σ H Q ⟨Φ, τ, tm, rl, h⟩ => tb_go rl h.bnd fun c τ1 H1 Φ1 p1 r1 => by
  cases c with
  | true => rw [if_pos rfl] at p1 ⊢; exact ⟨Φ1, τ1, tm, r1, p1⟩
  | false => rw [if_neg Bool.false_ne_true] at p1 ⊢; exact p1 H1 Φ1 r1
theorem wm_or (h : BM X F W a m) (hr : WM X F W (.BoolOp .Or (b :: rest) pos) n) : WM X F W (.BoolOp .Or (a :: b :: rest) pos) (bOr m n) := PW.imp (pw_or h hr) fun σ H Q ⟨Φ, τ, tm, rl, h⟩ => tb_go rl h.bnd fun c τ1 H1 Φ1 p1 r1 => by
  cases c with
  | true => rw [if_pos rfl] at p1 ⊢; exact p1 H1 Φ1 r1
  | false => rw [if_neg Bool.false_ne_true] at p1 ⊢; exact ⟨Φ1, τ1, tm, r1, p1⟩
/-- as values -/
def eAnd (ma mb : M S) : M S := M.bnd ma fun s => M.bnd (M.of (asB s)) fun b => if b = true then mb else M.ret (.val (.bl false))
def eOr (ma mb : M S) : M S := M.bnd ma fun s => M.bnd (M.of (asB s)) fun b => if b = true then M.ret (.val (.bl true)) else mb
def eNot (ma : M S) : M S := M.bnd ma fun s => M.bnd (M.of (asB s)) fun b => M.ret (.val (.bl !b))
theorem em_one {op} (h : EM X F W a ma) : EM X F W (.BoolOp op [a] pos) ma := pe_one h
theorem em_and (ha : EM X F W a ma) (hb : EM X F W (.BoolOp .And (b :: rest) pos) mb) : EM X F W (.BoolOp .And (a :: b :: rest) pos) (eAnd ma mb) := PE.imp (pe_and ha hb) fun σ H Q ⟨Φ, τ, tm, rl, h⟩ => te_go rl h.bnd fun s τ1 v H1 Φ1 p1 r1 => by
  obtain ⟨c, e, k⟩ := Wp.of p1.bnd
  refine ⟨c, one_bl r1.hd e, ?_⟩
  cases c with
  | true => rw [if_pos rfl] at k ⊢; exact ⟨Φ1, τ1, tm, r1.tl, k⟩
  | false => rw [if_neg Bool.false_ne_true] at k ⊢; exact k _ _ _ (r1.tl.val (.bl false))
theorem em_or (ha : EM X F W a ma) (hb : EM X F W (.BoolOp .Or (b :: rest) pos) mb) : EM X F W (.BoolOp .Or (a :: b :: rest) pos) (eOr ma mb) := PE.imp (pe_or ha hb) fun σ H Q ⟨Φ, τ, tm, rl, h⟩ => te_go rl h.bnd fun s τ1 v H1 Φ1 p1 r1 => by
  obtain ⟨c, e, k⟩ := Wp.of p1.bnd
  refine ⟨c, one_bl r1.hd e, ?_⟩
  cases c with
  | true => rw [if_pos rfl] at k ⊢; exact k _ _ _ (r1.tl.val (.bl true))
  | false => rw [if_neg Bool.false_ne_true] at k ⊢; exact ⟨Φ1, τ1, tm, r1.tl, k⟩
theorem em_not (ha : EM X F W a ma) : EM X F W (.UnaryOp .Not a pos) (eNot ma) := PE.imp (pe_not ha) fun σ H Q ⟨Φ, τ, tm, rl, h⟩ => te_go rl h.bnd fun s τ1 v H1 Φ1 p1 r1 => by
  obtain ⟨c, e, k⟩ := Wp.of p1.bnd
  exact ⟨c, one_bl r1.hd e, k _ _ _ (r1.tl.val (.bl _))⟩
def eIf (m : M Bool) (ma mb : M S) : M S := M.bnd m fun b => if b = true then ma else mb
theorem em_if {c : Expr} (hc : BM X F W c m) (ha : EM X F W a ma) (hb : EM X F W b mb) : EM X F W (.IfExp c a b pos) (eIf m ma mb) := PE.imp (pe_ifExp hc ha hb) fun σ H Q ⟨Φ, τ, tm, rl, h⟩ => tb_go rl h.bnd fun b τ1 H1 Φ1 p1 r1 => by
  cases b with
  | true => rw [if_pos rfl] at p1 ⊢; exact ⟨Φ1, τ1, tm, r1, p1⟩
  | false => rw [if_neg Bool.false_ne_true] at p1 ⊢; exact ⟨Φ1, τ1, tm, r1, p1⟩
/-- a < b < c -/
def eChain (f g : D → D → Option S) (ma mb mc : M S) : M S := M.bnd ma fun s => M.bnd mb fun t => M.bnd (peek s) fun d => M.bnd (peek t) fun e => M.bnd (M.of (f d e)) fun u => M.bnd (M.of (asB u)) fun k =>
  if k = true then M.bnd mc fun t2 => M.bnd (peek t) fun e' => M.bnd (peek t2) fun e2 => M.of (g e' e2) else M.ret (.val (.bl false))

/-! #### lists of arguments, displays -/
def lNil : M (List S) := M.ret []
def lCons (ma : M S) (ms : M (List S)) : M (List S) := M.bnd ma fun s => M.bnd ms fun ss => M.ret (s :: ss)
variable {es : List Expr} {ms : M (List S)}
theorem lm_nil : LM X F W [] lNil := PA.imp pa_nil fun σ H Q ⟨Φ, τ, tm, rl, h⟩ => h [] H Φ rfl rl
theorem lm_cons (ha : EM X F W a ma) (hr : LM X F W es ms) (hs : starEach (a :: es) X.env = (false, eval a X.env) :: starEach es X.env := by rfl) : LM X F W (a :: es) (lCons ma ms) :=
  PA.imp (pa_cons ha hr hs) fun σ H Q ⟨Φ, τ, tm, rl, h⟩ => te_go rl h.bnd fun s τ1 v H1 Φ1 p1 r1 => tl_go r1 p1.bnd fun ss τ2 vs H2 Φ2 p2 l r2 => p2 (v :: vs) H2 Φ2 (by simp [l]) (r2.air (.perm (by
    show ((vs.map some).zip ss ++ ((some v, s) :: tm)).Perm ((some v, s) :: ((vs.map some).zip ss ++ tm))
    exact List.perm_middle)))
def fitL (n : Nat) : Option Unit := if n ≤ sizeLine then some () else none
def eTup (ms : M (List S)) : M S := M.bnd ms fun ss => M.bnd (takeAll ss) fun ds => M.bnd (M.of (fitL ds.length)) fun _ => M.ret (.val (.tup ds))
def eLst (ms : M (List S)) : M S := M.bnd ms fun ss => M.bnd (takeAll ss) fun ds => M.bnd (M.of (fitL ds.length)) fun _ => M.ret (.own (.lst ds))
theorem fit_ok {n : Nat} {u : Unit} (h : fitL n = some u) : n ≤ sizeLine := by
  unfold fitL at h
  split at h
  · assumption
  · cases h
theorem em_tup {x1} (h : LM X F W es ms) : EM X F W (.Tuple es x1 pos) (eTup ms) := PE.imp (pe_tup h) fun σ H Q ⟨Φ, τ, tm, rl, h⟩ => tl_go rl h.bnd fun ss τ1 vs H1 Φ1 p1 l r1 => by
  obtain ⟨ds, τ2, e, p2⟩ := takeAll_cases p1.bnd
  obtain ⟨Φ2, r2, q⟩ := Rl.takenAll l r1 e
  obtain ⟨u, e2, k⟩ := Wp.of p2.bnd
  exact ⟨by rw [q.length]; exact fit_ok e2, fun p hp => k _ _ _ (r2.tuple hp q)⟩
theorem em_lst (h : LM X F W es ms) : EM X F W (.List es pos) (eLst ms) := PE.imp (pe_lst h) fun σ H Q ⟨Φ, τ, tm, rl, h⟩ => tl_go rl h.bnd fun ss τ1 vs H1 Φ1 p1 l r1 => by
  obtain ⟨ds, τ2, e, p2⟩ := takeAll_cases p1.bnd
  obtain ⟨Φ2, r2, q⟩ := Rl.takenAll l r1 e
  obtain ⟨u, e2, k⟩ := Wp.of p2.bnd
  exact ⟨by rw [q.length]; exact fit_ok e2, fun p hp => k _ _ _ (r2.mine hp q)⟩

/-! #### calls of what is built in -/
def eCB (f : List D → Option S) (ms : M (List S)) : M S := M.bnd ms fun ss => M.bnd (peekAll ss) fun ds => M.of (f ds)
theorem t_cb {f : List D → Option S} {r : List V → Hp → VK → Prop} (hf : CaS F f r) {Q : VK} (h : TEm F W (eCB f ms) σ H Q) : tCB r (TLm F W ms) σ H Q := by
  obtain ⟨Φ, τ, tm, rl, h⟩ := h
  refine tl_go rl h.bnd fun ss τ1 vs H1 Φ1 p1 l r1 => ?_
  obtain ⟨ds, q, p2⟩ := Rl.peekAll l r1 p1.bnd
  obtain ⟨s, e, k⟩ := Wp.of p2
  have r2 : Rl F Φ1 H1 σ τ1 tm := r1.air (.of (List.sublist_append_right _ _))
  exact hf r2 q e fun x H' Φ' r' => k x H' Φ' r'
variable {x : Str} {p : Pos} {id T : String} {f : List D → Option S} {r : List V → Hp → VK → Prop}
theorem em_callB (hc : CallR X (.builtin id) r) (hf : CaS F f r) (hm : X.mg x = none) (ha : LM X F W (a :: es) ms) (hv : bootBuiltins x = some (.builtin id) := by decide +kernel) (hg : Gl X x := by rfl) (hn : x ≠ "__name__" := by decide) (hdb : (x == ("__debug__" : Str)) = false := by decide)
    (he : starEach (a :: es) X.env = (false, eval a X.env) :: starEach es X.env := by rfl) (hpl : (backTo pos (starEach es X.env)).any (·.1) = false := by rfl) : EM X F W (.Call (.Name x p) (a :: es) [] pos) (eCB f ms) := PE.imp (pe_callB hc hg hm hv ha hn hdb he hpl) fun _ _ _ h => t_cb hf h
theorem em_callTy (hc : CallR X (.type T) r) (hf : CaS F f r) (hm : X.mg x = none) (ha : LM X F W (a :: es) ms) (hv : bootBuiltins x = some (.type T) := by decide +kernel) (hg : Gl X x := by rfl) (hn : x ≠ "__name__" := by decide) (hdb : (x == ("__debug__" : Str)) = false := by decide)
    (he : starEach (a :: es) X.env = (false, eval a X.env) :: starEach es X.env := by rfl) (hpl : (backTo pos (starEach es X.env)).any (·.1) = false := by rfl) : EM X F W (.Call (.Name x p) (a :: es) [] pos) (eCB f ms) := PE.imp (pe_callTy hc hg hm hv ha hn hdb he hpl) fun _ _ _ h => t_cb hf h
end
end Mi

/-! ### M4: operations by plain data -/
namespace Mi
open PySem PySem.Spec PyProof.Rows L2

/-- below a million bits together -/
def mulFits (i j : Int) : Bool := decide (i.natAbs.log2 + j.natAbs.log2 < 1000000) || (decide (-(2 ^ 64) < i) && decide (i < 2 ^ 64))
/-- small factors, or a left one of 64 bits -/
def CMulB (i j : Int) : Prop := CMulW i j ∨ CMul i j
theorem op_mulB : OpR X (binaryOp .Mult) (rI CMulB fun i j => .int (i * j)) := by
  intro pins s σ H x y v u Q I rx ry h
  obtain ⟨i, j, e1, e2, hc, q⟩ := h
  rcases hc with hc | hc
  · exact op_mulW pins s σ H x y v u Q I rx ry ⟨i, j, e1, e2, hc, q⟩
  · exact op_mul pins s σ H x y v u Q I rx ry ⟨i, j, e1, e2, hc, q⟩
def sInt (i : Int) : Option S := some (.val (.int i))
def sBl (b : Bool) : Option S := some (.val (.bl b))
def fAdd : D → D → Option S
  | .int i, .int j => sInt (i + j)
  | .str x, .str y => if x.length + y.length ≤ sizeLine then some (.val (.str (x ++ y))) else none
  | .lst xs, .lst ys => if xs.length + ys.length ≤ sizeLine then some (.own (.lst (xs ++ ys))) else none
  | .tup xs, .tup ys => if xs ≠ [] ∧ ys ≠ [] ∧ xs.length + ys.length ≤ sizeLine then some (.val (.tup (xs ++ ys))) else none
  | _, _ => none
def fSub : D → D → Option S
  | .int i, .int j => sInt (i - j)
  | _, _ => none
def fMul : D → D → Option S
  | .int i, .int j => if mulFits i j = true then sInt (i * j) else none
  | .str x, .int j => none
  | _, _ => none
/-- a positive divisor below 2 ^ 9000 -/
def fDiv : D → D → Option S
  | .int i, .int j => if 0 < j ∧ j.natAbs.log2 < 9000 then sInt (i / j) else if j < 0 ∧ j.natAbs.log2 < 9000 then sInt (i.fdiv j) else none
  | _, _ => none
def fMod : D → D → Option S
  | .int i, .int j => if 0 < j then sInt (i % j) else if j < 0 then sInt (i.fmod j) else none
  | _, _ => none
def fNeg : D → Option S
  | .int i => sInt (-i)
  | _ => none
def fCmp (p : Int → Int → Bool) : D → D → Option S
  | .int i, .int j => sBl (p i j)
  | _, _ => none
def fLt := fCmp fun i j => decide (i < j)
def fLe := fCmp fun i j => decide (i ≤ j)
def fGt := fCmp fun i j => decide (j < i)
def fGe := fCmp fun i j => decide (j ≤ i)
mutual
def D.py : D → Option PyData
  | .non => some .none
  | .bl b => some (.bool b)
  | .int i => some (.int i)
  | .str x => some (.str x)
  | .lst xs => (D.pys xs).map .list
  | .tup xs => (D.pys xs).map .tuple
  | _ => none
def D.pys : List D → Option (List PyData)
  | [] => some []
  | d :: ds => match D.py d, D.pys ds with
    | some p, some ps => some (p :: ps)
    | _, _ => none
end
def eqD (d e : D) : Option Bool := match d.py, e.py with
  | some p, some q => if SeqAt.shaped p = true ∧ SeqAt.shaped q = true then some (PyData.eqv p q) else none
  | _, _ => none
def fEq (d e : D) : Option S := (eqD d e).map fun b => .val (.bl b)
def fNe (d e : D) : Option S := (eqD d e).map fun b => .val (.bl !b)
def isNon : D → Bool
  | .non => true
  | _ => false
def fIsN (d e : D) : Option S := if isNon e = true then sBl (isNon d) else none
def fNotN (d e : D) : Option S := if isNon e = true then sBl (!isNon d) else none
/-- x[i] -/
def fIx : D → D → Option S
  | .lst xs, .int i => (atI xs i).map .val
  | .tup xs, .int i => (atI xs i).map .val
  | .scr xs, .int i => (atI xs i).map .val
  | .str z, .int i => if z.length ≤ sizeLine then (atI z.cps.toList i).map fun c => .val (.str ⟨#[c]⟩) else none
  | _, _ => none
def fLen : List D → Option S
  | [.lst xs] => sInt xs.length
  | [.tup xs] => sInt xs.length
  | [.scr xs] => sInt xs.length
  | [.str z] => if z.length ≤ sizeLine then sInt z.length else none
  | _ => none
def fAbs : List D → Option S
  | [.int i] => sInt (if i < 0 then -i else i)
  | _ => none
def fInt : List D → Option S
  | [.int i] => sInt i
  | [.bl k] => sInt (if k then 1 else 0)
  | _ => none
def fBool : List D → Option S
  | [.int i] => sBl (i != 0)
  | [.bl k] => sBl k
  | _ => none
def fList : List D → Option S
  | [.lst xs] => some (.own (.lst xs))
  | [.tup xs] => some (.own (.lst xs))
  | [.scr xs] => some (.own (.lst xs))
  | _ => none
def fTuple : List D → Option S
  | [.lst xs] => some (.val (.tup xs))
  | [.scr xs] => some (.val (.tup xs))
  | [.tup xs] => some (.val (.tup xs))
  | _ => none
def bools : List D → Option (List Bool)
  | [] => some []
  | .bl b :: ds => (bools ds).map (b :: ·)
  | _ => none
def intsD : List D → Option (List Int)
  | [] => some []
  | .int b :: ds => (intsD ds).map (b :: ·)
  | _ => none
def fAll : List D → Option S
  | [.lst xs] => (bools xs).map fun bs => .val (.bl (bs.all id))
  | _ => none
def fAny : List D → Option S
  | [.lst xs] => (bools xs).map fun bs => .val (.bl (bs.any id))
  | _ => none
def fSum : List D → Option S
  | [.lst xs] => (intsD xs).map fun ns => .val (.int ns.sum)
  | _ => none
section
variable {X : Cx} {F : Fm} {Φ Φ' H H' : Hp} {σ : L2.St} {τ τ' : List S} {tm : Env1}
theorem OpS.or {f : D → D → Option S} {r r' : R2} (h : OpS F f r) : OpS F f (fun x y H Q => r x y H Q ∨ r' x y H Q) := fun rl a b e k => .inl (h rl a b e k)
theorem fin_int {Q : VK} {i : Int} {s : S} (rl : Rl F Φ H σ τ tm) (e : sInt i = some s) (k : ∀ x H' Φ', Rl F Φ' H' σ τ ((some x, s) :: tm) → Q x H') : Q (.int i) H := by
  cases e
  exact k _ _ _ (rl.val (.int i))
theorem fin_bool {Q : VK} {i : Bool} {s : S} (rl : Rl F Φ H σ τ tm) (e : sBl i = some s) (k : ∀ x H' Φ', Rl F Φ' H' σ τ ((some x, s) :: tm) → Q x H') : Q (.bl i) H := by
  cases e
  exact k _ _ _ (rl.val (.bl i))
theorem o_add (hK : X.K = F.G.K) : ∃ r, OpR X (binaryOp .Add) r ∧ OpS F fAdd r := by
  refine ⟨_, (op_add (X := X)).or ((op_add_str (X := X)).or ((op_cat (X := X)).or (op_catT (X := X)))), ?_⟩
  intro Φ H σ τ tm v w d e s Q rl hd he hf k
  unfold fAdd at hf
  split at hf
  · exact .inl ⟨_, _, hd.int, he.int, fin_int rl hf k⟩
  · split at hf
    · rename_i hz
      cases hf
      exact .inr (.inl ⟨_, _, hd.str, he.str, hz, k _ _ _ (rl.val (.str _))⟩)
    · cases hf
  · split at hf
    · rename_i hz
      cases hf
      obtain ⟨a, vs, e1, e2, q1⟩ := hd.lst rl.le
      obtain ⟨b, ws, e3, e4, q2⟩ := he.lst rl.le
      exact .inr (.inr (.inl ⟨a, b, vs, ws, e1, e3, e2, e4, by rw [q1.length, q2.length]; exact hz, fun p hp => k _ _ _ (rl.mine hp (FzL.append q1 q2))⟩))
    · cases hf
  · split at hf
    · rename_i hz
      cases hf
      obtain ⟨a, vs, e1, e2, q1⟩ := hd.tup rl.le
      obtain ⟨b, ws, e3, e4, q2⟩ := he.tup rl.le
      have l1 := q1.length
      have l2 := q2.length
      refine .inr (.inr (.inr ⟨a, b, vs, ws, e1, e3, by rw [hK]; exact e2, by rw [hK]; exact e4, fun z => ?_, by rw [l1, l2]; exact hz.2.2, fun z => ?_, fun _ p hp => k _ _ _ (rl.tuple hp (FzL.append q1 q2))⟩))
      · subst z
        exact absurd (List.length_eq_zero_iff.mp (by simpa using l1.symm)) hz.1
      · subst z
        exact absurd (List.length_eq_zero_iff.mp (by simpa using l2.symm)) hz.2.1
    · cases hf
  · cases hf
/-- two intsD -/
theorem o_int {op : D → D → Option S} {C : Int → Int → Prop} {g : Int → Int → Int} (h : ∀ d e s, op d e = some s → ∃ i j, d = .int i ∧ e = .int j ∧ C i j ∧ s = .val (.int (g i j))) : OpS F op (rI C fun i j => .int (g i j)) := by
  intro Φ H σ τ tm v w d e s Q rl hd he hf k
  obtain ⟨i, j, rfl, rfl, c, rfl⟩ := h d e s hf
  exact ⟨i, j, hd.int, he.int, c, k _ _ _ (rl.val (.int _))⟩
theorem o_int0 {op : D → D → Option S} {g : Int → Int → Int} (h : ∀ d e s, op d e = some s → ∃ i j, d = .int i ∧ e = .int j ∧ s = .val (.int (g i j))) : OpS F op (rI0 fun i j => .int (g i j)) := by
  intro Φ H σ τ tm v w d e s Q rl hd he hf k
  obtain ⟨i, j, rfl, rfl, rfl⟩ := h d e s hf
  exact ⟨i, j, hd.int, he.int, k _ _ _ (rl.val (.int _))⟩
theorem o_sub : OpS F fSub (rI0 fun i j => .int (i - j)) := o_int0 fun d e s h => by
  unfold fSub at h
  split at h
  · cases h; exact ⟨_, _, rfl, rfl, rfl⟩
  · cases h
theorem o_mul : OpS F fMul (rI CMulB fun i j => .int (i * j)) := o_int fun d e s h => by
  unfold fMul at h
  split at h
  · split at h
    · rename_i hz
      cases h; exact ⟨_, _, rfl, rfl, (by
        rcases Bool.or_eq_true_iff.mp hz with hz | hz
        · exact .inl (by unfold CMulW; exact of_decide_eq_true hz)
        · obtain ⟨h1, h2⟩ := Bool.and_eq_true_iff.mp hz
          exact .inr (.inl ⟨of_decide_eq_true h1, of_decide_eq_true h2⟩)), rfl⟩
    · cases h
  · cases h
  · cases h
def CDivA (i j : Int) : Prop := (0 < j ∨ j < 0) ∧ j.natAbs.log2 < 9000
theorem op_fdivA : OpR X (binaryOp .FloorDiv) (rI CDivA fun i j => .int (i.fdiv j)) := opI fun i j _ _ _ _ _ hc q => floordiv_int (by have := hc.1; omega) q (.inl (PyProof.noPylong_of_log2 hc.2))
theorem o_div : OpS F fDiv (rI CDivA fun i j => .int (i.fdiv j)) := o_int fun d e s h => by
  unfold fDiv at h
  split at h
  · rename_i i j
    split at h
    · rename_i hz
      cases h; exact ⟨_, _, rfl, rfl, ⟨.inl hz.1, hz.2⟩, by rw [Int.fdiv_eq_ediv_of_nonneg i (by omega)]⟩
    · split at h
      · rename_i hz
        cases h; exact ⟨_, _, rfl, rfl, ⟨.inr hz.1, hz.2⟩, rfl⟩
      · cases h
  · cases h
theorem o_mod : OpS F fMod (rI (fun _ j => j ≠ 0) fun i j => .int (i.fmod j)) := o_int fun d e s h => by
  unfold fMod at h
  split at h
  · rename_i i j
    split at h
    · rename_i hz
      cases h; exact ⟨_, _, rfl, rfl, by omega, by rw [Int.fmod_eq_emod_of_nonneg i (by omega)]⟩
    · split at h
      · rename_i hz
        cases h; exact ⟨_, _, rfl, rfl, by omega, rfl⟩
      · cases h
  · cases h
theorem o_neg : UnS F fNeg (rU fun i => .int (-i)) := by
  intro Φ H σ τ tm v d s Q rl hd hf k
  unfold fNeg at hf
  split at hf
  · exact ⟨_, hd.int, fin_int rl hf k⟩
  · cases hf
theorem o_cmp {p : Int → Int → Bool} : OpS F (fCmp p) (rI0 fun i j => .bl (p i j)) := by
  intro Φ H σ τ tm v w d e s Q rl hd he hf k
  unfold fCmp at hf
  split at hf
  · exact ⟨_, _, hd.int, he.int, fin_bool rl hf k⟩
  · cases hf
mutual
theorem fz_dp : ∀ {d : D} {v : V} {p : PyData}, Fz F.G Φ v d → Le Φ H → d.py = some p → Dp F.G.K H v p
  | .non, _, _, h, _, e => by cases h; cases e; exact .non
  | .bl b, _, _, h, _, e => by cases h; cases e; exact .bl b
  | .int i, _, _, h, _, e => by cases h; cases e; exact .int i
  | .str x, _, _, h, _, e => by cases h; cases e; exact .str x
  | .lst xs, _, _, h, l, e => by
    cases h with
    | lst h t =>
      unfold D.py at e
      cases q : D.pys xs with
      | none => rw [q] at e; cases e
      | some ps =>
        rw [q] at e
        cases e
        exact .lst (.inl (.inl (l _ _ h))) (fzl_dp t l q)
  | .tup xs, _, _, h, l, e => by
    cases h with
    | tup h t =>
      unfold D.py at e
      cases q : D.pys xs with
      | none => rw [q] at e; cases e
      | some ps =>
        rw [q] at e
        cases e
        exact .tup (SqT.le h l) (fzl_dp t l q)
  | .dic _, _, _, _, _, e => by simp [D.py] at e
  | .scr _, _, _, _, _, e => by simp [D.py] at e
  | .ins _ _, _, _, _, _, e => by simp [D.py] at e
  | .exc _ _, _, _, _, _, e => by simp [D.py] at e
  | .ty _, _, _, _, _, e => by simp [D.py] at e
  | .cls _, _, _, _, _, e => by simp [D.py] at e
  | .fn _, _, _, _, _, e => by simp [D.py] at e
theorem fzl_dp : ∀ {ds : List D} {vs : List V} {ps : List PyData}, FzL F.G Φ vs ds → Le Φ H → D.pys ds = some ps → DpAll F.G.K H vs ps
  | [], _, _, h, _, e => by
    cases h
    simp [D.pys] at e
    subst e
    exact .nil
  | d :: ds, _, _, h, l, e => by
    cases h with
    | cons h t =>
      unfold D.pys at e
      split at e
      · rename_i p ps q1 q2
        cases e
        exact .cons (fz_dp h l q1) (fzl_dp t l q2)
      · cases e
end
theorem rd_dp {d : D} {v : V} {p : PyData} (h : Rdv F Φ H v d) (l : Le Φ H) (e : d.py = some p) : Dp F.G.K H v p := by
  rcases h with h | ⟨a, o, e1, e2, q⟩
  · exact fz_dp h l e
  · subst e1
    subst e2
    cases o with
    | ins c fs => simp [O.frz, D.py] at e
    | lst xs =>
      obtain ⟨vs, q1, q2⟩ := q
      unfold O.frz at e
      unfold D.py at e
      cases q : D.pys xs with
      | none => rw [q] at e; cases e
      | some ps =>
        rw [q] at e
        cases e
        exact .lst (.inl (.inl q1)) (fzl_dp q2 l q)
theorem eqD_some {d e : D} {b : Bool} (h : eqD d e = some b) : ∃ p q, d.py = some p ∧ e.py = some q ∧ SeqAt.shaped p = true ∧ SeqAt.shaped q = true ∧ b = PyData.eqv p q := by
  unfold eqD at h
  split at h
  · rename_i p q e1 e2
    split at h
    · rename_i hz
      cases h
      exact ⟨p, q, e1, e2, hz.1, hz.2, rfl⟩
    · cases h
  · cases h
theorem o_eq (hK : X.K = F.G.K) : OpS F fEq (rEqD X.K) := by
  intro Φ H σ τ tm v w d e s Q rl hd he hf k
  unfold fEq at hf
  obtain ⟨b, e1, rfl⟩ := Option.map_eq_some_iff.mp hf
  obtain ⟨p, q, p1, p2, s1, s2, rfl⟩ := eqD_some e1
  rw [hK]
  exact ⟨p, q, rd_dp hd rl.le p1, rd_dp he rl.le p2, s1, s2, k _ _ _ (rl.val (.bl _))⟩
theorem o_ne (hK : X.K = F.G.K) : OpS F fNe (rNeD X.K) := by
  intro Φ H σ τ tm v w d e s Q rl hd he hf k
  unfold fNe at hf
  obtain ⟨b, e1, rfl⟩ := Option.map_eq_some_iff.mp hf
  obtain ⟨p, q, p1, p2, s1, s2, rfl⟩ := eqD_some e1
  rw [hK]
  exact ⟨p, q, rd_dp hd rl.le p1, rd_dp he rl.le p2, s1, s2, k _ _ _ (rl.val (.bl _))⟩
theorem rd_isN {v : V} {d : D} (h : Rdv F Φ H v d) : decide (v = .non) = isNon d := by
  rcases h with h | ⟨a, o, e1, e2, q⟩
  · cases h <;> rfl
  · subst e1 e2
    cases o <;> rfl
theorem isN_eq {d : D} (h : isNon d = true) : d = .non := by
  cases d <;> first | rfl | cases h
theorem o_isN : OpS F fIsN (fun x y H Q => y = .non ∧ Q (.bl (decide (x = .non))) H) := by
  intro Φ H σ τ tm v w d e s Q rl hd he hf k
  unfold fIsN at hf
  split at hf
  · rename_i hz
    rw [isN_eq hz] at he
    exact ⟨he.non, by rw [rd_isN hd]; exact fin_bool rl hf k⟩
  · cases hf
theorem o_notN : OpS F fNotN (fun x y H Q => y = .non ∧ Q (.bl (!decide (x = .non))) H) := by
  intro Φ H σ τ tm v w d e s Q rl hd he hf k
  unfold fNotN at hf
  split at hf
  · rename_i hz
    rw [isN_eq hz] at he
    exact ⟨he.non, by rw [rd_isN hd]; exact fin_bool rl hf k⟩
  · cases hf
theorem atI_get {G : Gx} {vs : List V} {ds : List D} {i : Int} {d : D} (q : FzL G Φ vs ds) (h : atI ds i = some d) : ∃ v, atI vs i = some v ∧ Fz G Φ v d := by
  unfold atI at h ⊢
  rw [q.length]
  cases e : ixN ds.length i with
  | none => rw [e] at h; cases h
  | some j =>
    rw [e] at h
    exact FzL.get q h
theorem o_ix (hK : X.K = F.G.K) : OpS F fIx (rIx X.K) := by
  intro Φ H σ τ tm v w d e s Q rl hd he hf k
  unfold fIx at hf
  split at hf
  · obtain ⟨x, e1, rfl⟩ := Option.map_eq_some_iff.mp hf
    obtain ⟨a, vs, e2, e3, q⟩ := hd.lst rl.le
    obtain ⟨y, e4, q2⟩ := atI_get q e1
    exact .inl ⟨a, vs, _, y, e2, he.int, .inl (.inl e3), e4, k _ _ _ (rl.val q2)⟩
  · obtain ⟨x, e1, rfl⟩ := Option.map_eq_some_iff.mp hf
    obtain ⟨a, vs, e2, e3, q⟩ := hd.tup rl.le
    obtain ⟨y, e4, q2⟩ := atI_get q e1
    exact .inr (.inl ⟨a, vs, _, y, e2, he.int, by rw [hK]; exact e3, e4, k _ _ _ (rl.val q2)⟩)
  · obtain ⟨x, e1, rfl⟩ := Option.map_eq_some_iff.mp hf
    obtain ⟨a, vs, e2, e3, q⟩ := hd.scr rl.le
    obtain ⟨y, e4, q2⟩ := atI_get q e1
    exact .inl ⟨a, vs, _, y, e2, he.int, by rw [hK]; exact e3, e4, k _ _ _ (rl.val q2)⟩
  · split at hf
    · rename_i hz
      obtain ⟨x, e1, rfl⟩ := Option.map_eq_some_iff.mp hf
      exact .inr (.inr ⟨_, _, x, hd.str, he.int, hz, e1, k _ _ _ (rl.val (.str _))⟩)
    · cases hf
  · cases hf
theorem rd1 {vs : List V} {d : D} (h : RdAll F Φ H vs [d]) : ∃ v, vs = [v] ∧ Rdv F Φ H v d := by
  cases h with
  | cons h t => cases t; exact ⟨_, rfl, h⟩
theorem rd2 {vs : List V} {d e : D} (h : RdAll F Φ H vs [d, e]) : ∃ v w, vs = [v, w] ∧ Rdv F Φ H v d ∧ Rdv F Φ H w e := by
  cases h with
  | cons h t => obtain ⟨w, rfl, q⟩ := rd1 t; exact ⟨_, _, rfl, h, q⟩
theorem c_len (hK : X.K = F.G.K) : CaS F fLen (fun xs H Q => ∃ x n, xs = [x] ∧ LenV X.K x H n ∧ Q (.int n) H) := by
  intro Φ H σ τ tm vs ds s Q rl hd hf k
  unfold fLen at hf
  split at hf
  · obtain ⟨v, rfl, h⟩ := rd1 hd
    obtain ⟨a, ws, e2, e3, q⟩ := h.lst rl.le
    subst e2
    exact ⟨_, ws.length, rfl, .inl ⟨ws, .inl (.inl e3), rfl⟩, by rw [q.length]; exact fin_int rl hf k⟩
  · obtain ⟨v, rfl, h⟩ := rd1 hd
    obtain ⟨a, ws, e2, e3, q⟩ := h.tup rl.le
    subst e2
    exact ⟨_, ws.length, rfl, .inr ⟨ws, by rw [hK]; exact e3, rfl⟩, by rw [q.length]; exact fin_int rl hf k⟩
  · obtain ⟨v, rfl, h⟩ := rd1 hd
    obtain ⟨a, ws, e2, e3, q⟩ := h.scr rl.le
    subst e2
    exact ⟨_, ws.length, rfl, .inl ⟨ws, by rw [hK]; exact e3, rfl⟩, by rw [q.length]; exact fin_int rl hf k⟩
  · split at hf
    · rename_i hz
      obtain ⟨v, rfl, h⟩ := rd1 hd
      have := h.str
      subst this
      exact ⟨_, _, rfl, ⟨hz, rfl⟩, fin_int rl hf k⟩
    · cases hf
  · cases hf
theorem c_abs : CaS F fAbs (fun xs H Q => ∃ i, xs = [.int i] ∧ Q (.int (if i < 0 then -i else i)) H) := by
  intro Φ H σ τ tm vs ds s Q rl hd hf k
  unfold fAbs at hf
  split at hf
  · obtain ⟨v, rfl, h⟩ := rd1 hd
    exact ⟨_, by rw [h.int], fin_int rl hf k⟩
  · cases hf
theorem c_int : CaS F fInt (fun xs H Q => (∃ i, xs = [.int i] ∧ Q (.int i) H) ∨ ∃ k, xs = [.bl k] ∧ Q (.int (if k then 1 else 0)) H) := by
  intro Φ H σ τ tm vs ds s Q rl hd hf k
  unfold fInt at hf
  split at hf
  · obtain ⟨v, rfl, h⟩ := rd1 hd
    exact .inl ⟨_, by rw [h.int], fin_int rl hf k⟩
  · obtain ⟨v, rfl, h⟩ := rd1 hd
    exact .inr ⟨_, by rw [h.bl], fin_int rl hf k⟩
  · cases hf
theorem c_bool : CaS F fBool (fun xs H Q => (∃ i, xs = [.int i] ∧ Q (.bl (i != 0)) H) ∨ ∃ k, xs = [.bl k] ∧ Q (.bl k) H) := by
  intro Φ H σ τ tm vs ds s Q rl hd hf k
  unfold fBool at hf
  split at hf
  · obtain ⟨v, rfl, h⟩ := rd1 hd
    exact .inl ⟨_, by rw [h.int], fin_bool rl hf k⟩
  · obtain ⟨v, rfl, h⟩ := rd1 hd
    exact .inr ⟨_, by rw [h.bl], fin_bool rl hf k⟩
  · cases hf
theorem c_list (hK : X.K = F.G.K) : CaS F fList (fun xs H Q => ∃ p ys, xs = [.ref p] ∧ (SqL X.K H p ys ∨ SqT X.K H p ys) ∧ ∀ l, H l = none → Q (.ref l) (upd H l (.lst ys))) := by
  intro Φ H σ τ tm vs ds s Q rl hd hf k
  unfold fList at hf
  split at hf
  · obtain ⟨v, rfl, h⟩ := rd1 hd
    obtain ⟨a, ws, e2, e3, q⟩ := h.lst rl.le
    subst e2
    cases hf
    exact ⟨a, ws, rfl, .inl (.inl (.inl e3)), fun l hl => k _ _ _ (rl.mine hl q)⟩
  · obtain ⟨v, rfl, h⟩ := rd1 hd
    obtain ⟨a, ws, e2, e3, q⟩ := h.tup rl.le
    subst e2
    cases hf
    exact ⟨a, ws, rfl, .inr (by rw [hK]; exact e3), fun l hl => k _ _ _ (rl.mine hl q)⟩
  · obtain ⟨v, rfl, h⟩ := rd1 hd
    obtain ⟨a, ws, e2, e3, q⟩ := h.scr rl.le
    subst e2
    cases hf
    exact ⟨a, ws, rfl, .inl (by rw [hK]; exact e3), fun l hl => k _ _ _ (rl.mine hl q)⟩
  · cases hf
theorem c_tuple (hK : X.K = F.G.K) : CaS F fTuple (fun xs H Q => ∃ p ys, xs = [.ref p] ∧ ((SqL X.K H p ys ∧ ∀ l, H l = none → Q (.ref l) (upd H l (.tup ys))) ∨ (SqT X.K H p ys ∧ Q (.ref p) H))) := by
  intro Φ H σ τ tm vs ds s Q rl hd hf k
  unfold fTuple at hf
  split at hf
  · obtain ⟨v, rfl, h⟩ := rd1 hd
    obtain ⟨a, ws, e2, e3, q⟩ := h.lst rl.le
    subst e2
    cases hf
    exact ⟨a, ws, rfl, .inl ⟨.inl (.inl e3), fun l hl => k _ _ _ (rl.tuple hl q)⟩⟩
  · obtain ⟨v, rfl, h⟩ := rd1 hd
    obtain ⟨a, ws, e2, e3, q⟩ := h.scr rl.le
    subst e2
    cases hf
    exact ⟨a, ws, rfl, .inl ⟨by rw [hK]; exact e3, fun l hl => k _ _ _ (rl.tuple hl q)⟩⟩
  · obtain ⟨v, rfl, h⟩ := rd1 hd
    cases hf
    rcases h with h | ⟨a, o, e1, e2, q⟩
    · cases h with
      | tup h t => exact ⟨_, _, rfl, .inr ⟨by rw [hK]; exact SqT.le h rl.le, k _ _ _ (rl.val (.tup h t))⟩⟩
    · cases o <;> cases e2
  · cases hf
theorem bools_fz {G : Gx} : ∀ {xs : List D} {vs : List V} {bs : List Bool}, FzL G Φ vs xs → bools xs = some bs → vs = bs.map V.bl
  | [], _, bs, h, e => by cases h; cases e; rfl
  | d :: ds, _, bs, h, e => by
    cases h with
    | cons h t =>
      cases d with
      | bl b =>
        cases q : bools ds with
        | none => simp [bools, q] at e
        | some cs =>
          simp [bools, q] at e
          subst e
          cases h
          rw [bools_fz t q]
          rfl
      | _ => simp [bools] at e
theorem ints_fz {G : Gx} : ∀ {xs : List D} {vs : List V} {bs : List Int}, FzL G Φ vs xs → intsD xs = some bs → vs = bs.map V.int
  | [], _, bs, h, e => by cases h; cases e; rfl
  | d :: ds, _, bs, h, e => by
    cases h with
    | cons h t =>
      cases d with
      | int b =>
        cases q : intsD ds with
        | none => simp [intsD, q] at e
        | some cs =>
          simp [intsD, q] at e
          subst e
          cases h
          rw [ints_fz t q]
          rfl
      | _ => simp [intsD] at e
theorem c_all (hK : X.K = F.G.K) : CaS F fAll (rAll X.K) := by
  intro Φ H σ τ tm vs ds s Q rl hd hf k
  unfold fAll at hf
  split at hf
  · obtain ⟨v, rfl, h⟩ := rd1 hd
    obtain ⟨a, ws, e2, e3, q⟩ := h.lst rl.le
    subst e2
    obtain ⟨bs, e4, rfl⟩ := Option.map_eq_some_iff.mp hf
    rw [bools_fz q e4] at e3
    exact ⟨a, bs, rfl, .inl (.inl e3), k _ _ _ (rl.val (.bl _))⟩
  · cases hf
theorem c_any (hK : X.K = F.G.K) : CaS F fAny (rAny X.K) := by
  intro Φ H σ τ tm vs ds s Q rl hd hf k
  unfold fAny at hf
  split at hf
  · obtain ⟨v, rfl, h⟩ := rd1 hd
    obtain ⟨a, ws, e2, e3, q⟩ := h.lst rl.le
    subst e2
    obtain ⟨bs, e4, rfl⟩ := Option.map_eq_some_iff.mp hf
    rw [bools_fz q e4] at e3
    exact ⟨a, bs, rfl, .inl (.inl e3), k _ _ _ (rl.val (.bl _))⟩
  · cases hf
theorem c_sum (hK : X.K = F.G.K) : CaS F fSum (rSum X.K) := by
  intro Φ H σ τ tm vs ds s Q rl hd hf k
  unfold fSum at hf
  split at hf
  · obtain ⟨v, rfl, h⟩ := rd1 hd
    obtain ⟨a, ws, e2, e3, q⟩ := h.lst rl.le
    subst e2
    obtain ⟨bs, e4, rfl⟩ := Option.map_eq_some_iff.mp hf
    rw [ints_fz q e4] at e3
    exact ⟨a, bs, rfl, .inl (.inl e3), k _ _ _ (rl.val (.int _))⟩
  · cases hf
end
end Mi

/-! ### M5: statements -/
namespace Mi
open PySem PySem.Spec PyProof.Rows L2

inductive Fl where
  | nx | rt (s : S) | bk | ct
def Quiet (tm : Env1) : Prop := ∀ p ∈ tm, p.2.noali
def FlK (F : Fm) (D : Ends) (tm : Env1) (f : Fl) (τ' : List S) : Prop := match f with
  | .nx => ∀ σ' H' Φ', Rl F Φ' H' σ' τ' tm → D.nx σ' H'
  | .bk => ∀ σ' H' Φ', Rl F Φ' H' σ' τ' tm → D.bk σ' H'
  | .ct => ∀ σ' H' Φ', Rl F Φ' H' σ' τ' tm → D.ct σ' H'
  | .rt s => ∀ v σ' H' Φ', Rl F Φ' H' σ' τ' ((some v, s) :: tm) → D.rt v H'
def TSm (F : Fm) (W : WX) (m : M Fl) : L2.TS := fun D σ H => ∃ Φ τ tm, Quiet tm ∧ Rl F Φ H σ τ tm ∧ Wp F W tm (m τ) (FlK F D tm)
abbrev SM (X : Cx) (F : Fm) (W : WX) (st : Stmt) (m : M Fl) : Prop := PS X st (TSm F W m)
abbrev BlM (X : Cx) (F : Fm) (W : WX) (st : List Stmt) (m : M Fl) : Prop := PSs X st (TSm F W m)

section
variable {X : Cx} {F : Fm} {W : WX} {Φ Φ' H H' : Hp} {σ : L2.St} {τ τ' : List S} {tm : Env1}
theorem ts_go {D : Ends} {m : M Fl} {tm0 : Env1} {P : Fl → List S → Prop} (qt : Quiet tm) (r : Rl F Φ H σ τ tm) (h : Wp F W tm0 (m τ) P)
    (nx : ∀ τ1 σ1 H1 Φ1, P .nx τ1 → Rl F Φ1 H1 σ1 τ1 tm → D.nx σ1 H1) (bk : ∀ τ1 σ1 H1 Φ1, P .bk τ1 → Rl F Φ1 H1 σ1 τ1 tm → D.bk σ1 H1)
    (ct : ∀ τ1 σ1 H1 Φ1, P .ct τ1 → Rl F Φ1 H1 σ1 τ1 tm → D.ct σ1 H1) (rt : ∀ s τ1 v σ1 H1 Φ1, P (.rt s) τ1 → Rl F Φ1 H1 σ1 τ1 ((some v, s) :: tm) → D.rt v H1) (sub : Subp tm0 tm := by repeat (first | exact Subp.of (List.Sublist.refl _) | apply Subp.cons' | apply Subp.app')) : TSm F W m D σ H :=
  ⟨Φ, τ, tm, qt, r, (h.air sub).mono fun f τ1 p => by
    cases f with
    | nx => exact fun σ' H' Φ' r' => nx τ1 σ' H' Φ' p r'
    | bk => exact fun σ' H' Φ' r' => bk τ1 σ' H' Φ' p r'
    | ct => exact fun σ' H' Φ' r' => ct τ1 σ' H' Φ' p r'
    | rt s => exact fun v σ' H' Φ' r' => rt s τ1 v σ' H' Φ' p r'⟩
def sNil : M Fl := M.ret .nx
def sSeq (m n : M Fl) : M Fl := M.bnd m fun f => match f with
  | .nx => n
  | .bk => M.ret .bk
  | .ct => M.ret .ct
  | .rt s => M.ret (.rt s)
variable {st : Stmt} {rest : List Stmt} {m n : M Fl} {e : Expr} {ma mb : M S} {pos : Pos}
theorem bl_nil : BlM X F W [] sNil := PSs.imp pss_nil fun D σ H ⟨Φ, τ, tm, qt, r, h⟩ => h σ H Φ r
theorem bl_cons (h1 : SM X F W st m) (h2 : BlM X F W rest n) : BlM X F W (st :: rest) (sSeq m n) := PSs.imp (pss_cons h1 h2) fun D σ H ⟨Φ, τ, tm, qt, r, h⟩ =>
  ts_go (D := { D with nx := TSm F W n D }) qt r h.bnd (fun τ1 σ1 H1 Φ1 p r1 => ⟨Φ1, τ1, tm, qt, r1, p⟩) (fun τ1 σ1 H1 Φ1 p r1 => p σ1 H1 Φ1 r1) (fun τ1 σ1 H1 Φ1 p r1 => p σ1 H1 Φ1 r1) fun s τ1 v σ1 H1 Φ1 p r1 => p v σ1 H1 Φ1 r1
theorem bl_one (h1 : SM X F W st m) : BlM X F W [st] m := pss_one h1
def sBreak : M Fl := M.ret .bk
def sCont : M Fl := M.ret .ct
theorem sm_pass : SM X F W (.Pass pos) sNil := PS.imp ps_pass fun D σ H ⟨Φ, τ, tm, qt, r, h⟩ => h σ H Φ r
theorem sm_break : SM X F W (.Break pos) sBreak := PS.imp ps_break fun D σ H ⟨Φ, τ, tm, qt, r, h⟩ => h σ H Φ r
theorem sm_continue : SM X F W (.Continue pos) sCont := PS.imp ps_continue fun D σ H ⟨Φ, τ, tm, qt, r, h⟩ => h σ H Φ r
theorem sm_doc {x j pos'} : SM X F W (.Expr (.Constant (.str x) j pos) pos') sNil := PS.imp ps_doc fun D σ H ⟨Φ, τ, tm, qt, r, h⟩ => h σ H Φ r
def sExpr (ma : M S) : M Fl := M.bnd ma fun _ => M.ret .nx
theorem sm_expr (he : EM X F W e ma) (hs : swapsWith e none pos.line X.env = pure false := by rfl) : SM X F W (.Expr e pos) (sExpr ma) := PS.imp (ps_expr he hs) fun D σ H ⟨Φ, τ, tm, qt, r, h⟩ => te_go r h.bnd fun s τ1 v H1 Φ1 p r1 => p σ H1 Φ1 r1.tl
/-- what goes into a name: a value, or what is ours alone -/
def give (s : S) : M S := match s with
  | .own o => M.ret (.own o)
  | s => M.bnd (take s) fun d => M.ret (.val d)
theorem give_cases {tm0 : Env1} {s : S} {K : S → List S → Prop} {v : V} (r : Rl F Φ H σ τ ((some v, s) :: tm)) (h : Wp F W tm0 (give s τ) K) : ∃ s' τ' Φ', s'.noali ∧ Rl F Φ' H σ τ' ((some v, s') :: tm) ∧ K s' τ' := by
  have gen : Wp F W tm0 (M.bnd (take s) (fun d => M.ret (S.val d)) τ) K → ∃ s' τ' Φ', s'.noali ∧ Rl F Φ' H σ τ' ((some v, s') :: tm) ∧ K s' τ' := fun h => by
    obtain ⟨d, τ1, e, k⟩ := take_cases h.bnd
    obtain ⟨Φ1, r1⟩ := Rl.taken r e
    exact ⟨.val d, τ1, Φ1, trivial, r1, k⟩
  cases s with
  | own o => exact ⟨.own o, τ, Φ, trivial, r, h⟩
  | raw => exact gen h
  | non => exact gen h
  | val d => exact gen h
  | lent j o => exact gen h
  | ali i => exact gen h
def sAsg (i : Nat) (ma : M S) : M Fl := M.bnd ma fun s => M.bnd (give s) fun s' => fun τ => .ok (.nx, τ.set i s')
theorem sm_set (i : Nat) {x : Str} {pos' : Pos} (hN : X.N.Nodup) (he : EM X F W e ma) (hi : X.N[i]? = some x := by rfl) (hx : Loc X.env.scope x := by first | exact Or.inl rfl | exact Or.inr rfl) (hs : swapsWith e (some (.Name x pos')) pos.line X.env = pure false := by rfl) (hf : X.fn x = true ∨ X.env.scope.names.lookup x = some .local := by first | exact .inl rfl | exact .inr rfl | assumption) :
    SM X F W (.Assign [.Name x pos'] e pos) (sAsg i ma) := PS.imp (ps_set hN hi hx he hs hf) fun D σ H ⟨Φ, τ, tm, qt, r, h⟩ => te_go r h.bnd fun s τ1 v H1 Φ1 p r1 => by
  obtain ⟨s', τ2, Φ2, na, r2, k⟩ := give_cases r1 p.bnd
  exact k _ _ _ (r2.store na qt i)
def sRet (ma : M S) : M Fl := M.bnd ma fun s => M.bnd (give s) fun s' => M.ret (.rt s')
theorem sm_ret (he : EM X F W e ma) : SM X F W (.Return (some e) pos) (sRet ma) := PS.imp (ps_ret he) fun D σ H ⟨Φ, τ, tm, qt, r, h⟩ => te_go r h.bnd fun s τ1 v H1 Φ1 p r1 => by
  obtain ⟨s', τ2, Φ2, na, r2, k⟩ := give_cases r1 p.bnd
  exact k v σ H1 Φ2 r2
def sRetN : M Fl := M.ret (.rt (.val .non))
theorem sm_retN : SM X F W (.Return none pos) sRetN := PS.imp ps_retN fun D σ H ⟨Φ, τ, tm, qt, r, h⟩ => h .non σ H Φ (r.val .non)
def sIf (c : M Bool) (m n : M Fl) : M Fl := M.bnd c fun b => if b = true then m else n
theorem sm_if {c : Expr} {mc : M Bool} {a b : List Stmt} (hc : BM X F W c mc) (ha : BlM X F W a m) (hb : BlM X F W b n) : SM X F W (.If c a b pos) (sIf mc m n) := PS.imp (ps_if hc ha hb) fun D σ H ⟨Φ, τ, tm, qt, r, h⟩ => tb_go r h.bnd fun b τ1 H1 Φ1 p r1 => by
  cases b with
  | true => rw [if_pos rfl] at p ⊢; exact ⟨Φ1, τ1, tm, qt, r1, p⟩
  | false => rw [if_neg Bool.false_ne_true] at p ⊢; exact ⟨Φ1, τ1, tm, qt, r1, p⟩

/-! #### targets -/
/-- a target; what it does with slots -/
abbrev MG := S → M Unit
/-- nothing but these slots differs -/
structure But (is : List Nat) (σ σ' : L2.St) : Prop where
  len : σ'.length = σ.length
  at_ : ∀ j, j ∉ is → σ'[j]? = σ[j]?
theorem But.trans {is js : List Nat} {σ σ' σ'' : L2.St} (a : But is σ σ') (b : But js σ' σ'') : But (is ++ js) σ σ'' := ⟨b.len.trans a.len, fun j h => by
  rw [b.at_ j (fun z => h (List.mem_append_right _ z)), a.at_ j (fun z => h (List.mem_append_left _ z))]⟩
def TGm (F : Fm) (W : WX) (is : List Nat) (g : MG) : L2.TG := fun v σ H Q => ∃ Φ τ tm s, s.noali ∧ Quiet tm ∧ Rl F Φ H σ τ ((some v, s) :: tm) ∧ Wp F W tm (g s τ) fun _ τ' => ∀ σ' H' Φ', Rl F Φ' H' σ' τ' tm → But is σ σ' → Q σ' H'
abbrev GM (X : Cx) (F : Fm) (W : WX) (t : Expr) (is : List Nat) (g : MG) : Prop := PG X t (TGm F W is g)
def air (vs : List V) (ds : List D) : Env1 := (vs.map some).zip (ds.map S.val)
def TGsm (F : Fm) (W : WX) (is : List Nat) (g : List D → M Unit) : L2.TGs := fun vs σ H Q => ∃ Φ τ tm ds, vs.length = ds.length ∧ Quiet tm ∧ Rl F Φ H σ τ (air vs ds ++ tm) ∧ Wp F W tm (g ds τ) fun _ τ' => ∀ σ' H' Φ', Rl F Φ' H' σ' τ' tm → But is σ σ' → Q σ' H'
theorem PG.imp {t : Expr} {g g' : L2.TG} (h : PG X t g) (i : ∀ v σ H Q, g' v σ H Q → g v σ H Q) : PG X t g' := ⟨fun pins s σ H v u Q I r q => h.run pins s σ H v u Q I r (i _ _ _ _ q)⟩
theorem PGs.imp {t : List Expr} {g g' : L2.TGs} (h : PGs X t g) (i : ∀ v σ H Q, g' v σ H Q → g v σ H Q) : PGs X t g' := ⟨fun pins s σ H v u Q I r q => h.run pins s σ H v u Q I r (i _ _ _ _ q)⟩
def gNam (i : Nat) : MG := fun s τ => .ok ((), τ.set i s)
theorem gm_name (i : Nat) {x : Str} (hN : X.N.Nodup) (hi : X.N[i]? = some x := by rfl) (hx : Loc X.env.scope x := by first | exact Or.inl rfl | exact Or.inr rfl) (hf : X.fn x = true ∨ X.env.scope.names.lookup x = some .local := by first | exact .inl rfl | exact .inr rfl | assumption) : GM X F W (.Name x pos) [i] (gNam i) :=
  PG.imp (pg_name hN hi hx hf) fun v σ H Q ⟨Φ, τ, tm, s, na, nt, r, h⟩ => h _ _ _ (r.store na nt i) ⟨List.length_set, fun j hj => List.getElem?_set_ne (fun e => hj (by rw [e]; exact List.mem_singleton.mpr rfl))⟩
/-- the items of a list or tuple that is unpacked -/
def unpk (n : Nat) : D → Option (List D)
  | .tup ds => if ds.length = n then some ds else none
  | .lst ds => if ds.length = n then some ds else none
  | _ => none
def gsEnd : List D → M Unit
  | [] => M.ret ()
  | _ :: _ => fun _ => .stuck
def gsCons (g : MG) (gs : List D → M Unit) : List D → M Unit
  | d :: ds => M.bnd (g (.val d)) fun _ => gs ds
  | [] => fun _ => .stuck
theorem gsm_nil : PGs X [] (TGsm F W [] gsEnd) := PGs.imp pgs_nil fun vs σ H Q ⟨Φ, τ, tm, ds, l, nt, r, h⟩ => by
  cases ds with
  | nil =>
    have e : vs = [] := List.length_eq_zero_iff.mp l
    subst e
    exact ⟨rfl, h σ H Φ r ⟨rfl, fun _ _ => rfl⟩⟩
  | cons _ _ => exact h.elim
theorem quiet_air {vs : List V} {ds : List D} (nt : Quiet tm) : Quiet (air vs ds ++ tm) := fun p hp => by
  rcases List.mem_append.mp hp with h | h
  · have := (List.of_mem_zip h).2
    obtain ⟨d, _, e⟩ := List.mem_map.mp this
    rw [← e]
    trivial
  · exact nt p h
theorem gsm_cons {t : Expr} {ts : List Expr} {is js : List Nat} {g : MG} {gs : List D → M Unit} (h1 : GM X F W t is g) (h2 : PGs X ts (TGsm F W js gs)) (hs : (assignEach (t :: ts) X.env).map (·.2) = assign t X.env :: (assignEach ts X.env).map (·.2) := by rfl) : PGs X (t :: ts) (TGsm F W (is ++ js) (gsCons g gs)) :=
  PGs.imp (pgs_cons h1 h2 hs) fun vs σ H Q ⟨Φ, τ, tm, ds, l, nt, r, h⟩ => by
    cases ds with
    | nil => exact h.elim
    | cons d ds =>
      cases vs with
      | nil => cases l
      | cons v vs =>
        exact ⟨v, vs, rfl, Φ, τ, air vs ds ++ tm, .val d, trivial, quiet_air nt, r, ((Wp.bnd h).air (Subp.app' (Subp.of (List.Sublist.refl _)))).mono fun _ τ1 p σ1 H1 Φ1 r1 b1 => ⟨Φ1, τ1, tm, ds, by simpa using l, nt, r1, Wp.mono p fun _ τ2 q σ2 H2 Φ2 r2 b2 => q σ2 H2 Φ2 r2 (b1.trans b2)⟩⟩
theorem Rl.vals (r : Rl F Φ H σ τ tm) : ∀ {vs : List V} {ds : List D}, FzL F.G Φ vs ds → Rl F Φ H σ τ (Mi.air vs ds ++ tm)
  | _, _, .nil => r
  | _, _, .cons h t => (Rl.vals r t).val h
/-- (a, b, ..) = a tuple, or a list, of that length -/
def gTupM (n : Nat) (gs : List D → M Unit) : MG := fun s => M.bnd (peek s) fun d => M.bnd (M.of (unpk n d)) gs
theorem gm_tup {es : List Expr} {k : Nat} {is : List Nat} {gs : List D → M Unit} (n : Nat) (hK : X.K = F.G.K) (hc : X.calm = true) (h : PGs X es (TGsm F W is gs)) (hn : (assignEach es X.env).length = n := by rfl) (hst : (assignEach es X.env).findIdx? (·.1) = none := by rfl) : GM X F W (.Tuple es k pos) is (gTupM n gs) := by
  have two : PG X (.Tuple es k pos) (fun v σ H Q => gTup X.K n (TGsm F W is gs) v σ H Q ∨ gLst X.K n (TGsm F W is gs) v σ H Q) := ⟨fun pins s σ H v u Q I r q => q.elim (fun q => (pg_tup hc h hn hst).run pins s σ H v u Q I r q) fun q => (pg_lst hc h hn hst).run pins s σ H v u Q I r q⟩
  refine PG.imp two fun v σ H Q ⟨Φ, τ, tm, s, na, nt, r, h⟩ => ?_
  obtain ⟨d, e1, h1⟩ := Wp.peek (Wp.bnd h)
  obtain ⟨ds, e2, h2⟩ := Wp.of (Wp.bnd h1)
  have rd := r.peek r.hd e1
  unfold unpk at e2
  split at e2
  · split at e2
    · rename_i hz
      cases e2
      obtain ⟨a, vs, e3, e4, q⟩ := rd.tup r.le
      exact .inl ⟨a, vs, e3, by rw [hK]; exact e4, by rw [q.length]; exact hz, Φ, τ, tm, ds, q.length, nt, r.tl.vals q, h2⟩
    · cases e2
  · split at e2
    · rename_i hz
      cases e2
      obtain ⟨a, vs, e3, e4, q⟩ := rd.lst r.le
      exact .inr ⟨a, vs, e3, .inl (.inl e4), by rw [q.length]; exact hz, Φ, τ, tm, ds, q.length, nt, r.tl.vals q, h2⟩
    · cases e2
  · cases e2
/-- target = value -/
def sAsgT (g : MG) (ma : M S) : M Fl := M.bnd ma fun s => M.bnd (give s) fun s' => M.bnd (g s') fun _ => M.ret .nx
theorem sm_asg {t : Expr} {is : List Nat} {g : MG} (he : EM X F W e ma) (hg : GM X F W t is g) (hs : swapsWithSole [t] e pos.line X.env = pure false := by rfl) (hw : swappedStores [t] e X.env = pure none := by rfl)
    (h1 : (assignEach [t] X.env).map (·.2) = [assign t X.env] := by rfl) : SM X F W (.Assign [t] e pos) (sAsgT g ma) := PS.imp (ps_asg he hg hs hw h1) fun D σ H ⟨Φ, τ, tm, qt, r, h⟩ => te_go r h.bnd fun s τ1 v H1 Φ1 p r1 => by
  obtain ⟨s', τ2, Φ2, na, r2, k⟩ := give_cases r1 p.bnd
  exact ⟨Φ2, τ2, tm, s', na, qt, r2, (Wp.bnd k).mono fun _ τ3 p σ3 H3 Φ3 r3 _ => p σ3 H3 Φ3 r3⟩
/-- a, b = x, y with plain local names -/
def sPar (i j : Nat) (ms : M (List S)) : M Fl := M.bnd ms fun ss => match ss with
  | [s, t] => M.bnd (give s) fun s' => M.bnd (give t) fun t' => fun τ => .ok (.nx, (τ.set i s').set j t')
  | _ => fun _ => .stuck
theorem sm_par (i j : Nat) {x y : Str} {a b : Expr} {ms : M (List S)} {px py pt : Pos} {kt k2 pt2} (hc : X.calm = true) (hN : X.N.Nodup) (ha : LM X F W [a, b] ms) (hi : X.N[i]? = some x := by rfl) (hj : X.N[j]? = some y := by rfl) (hij : i ≠ j := by decide)
    (hx : X.env.scope.names.lookup x = some .local := by rfl) (hy : X.env.scope.names.lookup y = some .local := by rfl)
    (hw : swappedStores [.Tuple [.Name x px, .Name y py] kt pt] (.Tuple [a, b] k2 pt2) X.env = pure (some [x, y]) := by rfl)
    (hs : swapsWithSole [.Tuple [.Name x px, .Name y py] kt pt] (.Tuple [a, b] k2 pt2) pos.line X.env = pure false := by rfl) :
    SM X F W (.Assign [.Tuple [.Name x px, .Name y py] kt pt] (.Tuple [a, b] k2 pt2) pos) (sPar i j ms) := PS.imp (ps_par hc hN hi hj hij hx hy ha hw hs) fun D σ H ⟨Φ, τ, tm, qt, r, h⟩ => tl_go r h.bnd fun ss τ1 vs H1 Φ1 p l r1 => by
  cases ss with
  | nil => exact p.elim
  | cons s ss =>
    cases ss with
    | nil => exact p.elim
    | cons t ss =>
      cases ss with
      | cons _ _ => exact p.elim
      | nil =>
        obtain ⟨v, w, rfl⟩ : ∃ v w, vs = [v, w] := by
          cases vs with
          | nil => cases l
          | cons v vs =>
            cases vs with
            | nil => cases l
            | cons w vs =>
              cases vs with
              | nil => exact ⟨v, w, rfl⟩
              | cons _ _ => cases l
        refine ⟨v, w, rfl, ?_⟩
        obtain ⟨s', τ2, Φ2, n1, r2, k1⟩ := give_cases r1 (Wp.bnd p)
        obtain ⟨t', τ3, Φ3, n2, r3, k2⟩ := give_cases (tm := (some v, s') :: tm) (r2.air (.perm (List.Perm.swap _ _ _))) (Wp.bnd k1)
        have r4 := (r3.air (tm' := (some v, s') :: (some w, t') :: tm) (.perm (List.Perm.swap _ _ _))).store n1 (fun p hp => by
          cases hp with
          | head => exact n2
          | tail _ h => exact qt p h) i
        exact k2 _ _ _ (r4.store n2 qt j)
end
end Mi

/-! ### M6: what is ours is written; defs and their calls -/
namespace Mi
open PySem PySem.Spec PyProof.Rows L2

/-- the same kind of slot with another content -/
inductive Kin : S → S → O → O → Prop
  | own (o o' : O) : Kin (.own o) (.own o') o o'
  | lent (j : Nat) (o o' : O) : Kin (.lent j o) (.lent j o') o o'
section
variable {F : Fm} {W : WX} {Φ Φ' H H' : Hp} {σ : L2.St} {τ τ' : List S} {tm : Env1}
theorem Rl.write (r : Rl F Φ H σ τ tm) {k : Nat} {s s' : S} {a : Addr} {o o' : O} (e : τ[k]? = some s) (es : σ[k]? = some (some (.ref a))) (ks : Kin s s' o o') (l : Le Φ Φ') (l' : Le Φ' H')
    (kp : ∀ b u, H b = some u → b ≠ a → (∀ ps, u ≠ .tbl ps) → H' b = some u) (n : ∀ b u, Φ' b = some u → Φ b = some u ∨ H b = none) (t : TabsN F.G.T Φ' H') (d : ∀ b, H' b = none → H b = none)
    (w : Ow F.G Φ' H' a o') (fa : Φ' a = none) : Rl F Φ' H' σ (τ.set k s') tm := by
  have hi : k < τ.length := (List.getElem?_eq_some_iff.mp e).1
  have hs : σ.set k (some (V.ref a)) = σ := by
    apply List.ext_getElem?
    intro j
    by_cases hj : k = j
    · subst hj
      rw [List.getElem?_set_self (by rw [r.len]; exact hi)]
      exact es.symm
    · rw [List.getElem?_set_ne hj]
  have hz : σ.zip (τ.set k s') = (σ.zip τ).set k (some (.ref a), s') := by
    rw [← zip_set, hs]
  have ix : (σ.zip τ)[k]? = some (some (.ref a), s) := by
    rw [List.getElem?_zip_eq_some]
    exact ⟨es, e⟩
  have hit : k < (σ.zip τ).length := (List.getElem?_eq_some_iff.mp ix).1
  have sz : both σ (τ.set k s') tm = (both σ τ tm).set k (some (.ref a), s') := by
    show σ.zip (τ.set k s') ++ tm = (σ.zip τ ++ tm).set k _
    rw [hz, List.set_append_left _ _ hit]
  have ei : (both σ τ tm)[k]? = some (some (.ref a), s) := by
    rw [List.getElem?_append_left hit]; exact ix
  obtain ⟨li, gi⟩ := List.getElem?_eq_some_iff.mp ei
  have hold : holds (some (.ref a), s) = some a := by cases ks <;> rfl
  have hold' : holds (some (.ref a), s') = some a := by cases ks <;> rfl
  have na : s'.noali := by cases ks <;> trivial
  have one0 : One F Φ H σ τ (some (.ref a), s) := r.one _ (List.mem_of_getElem? ei)
  have ow : ∃ o, Ow F.G Φ H a o := (one0.own hold).2
  have ap : ∀ (j : Nat) p, (both σ τ tm)[j]? = some p → j ≠ k → holds p ≠ some a := fun j p hj ne => by
    have pw := List.pairwise_iff_getElem.mp r.nd
    obtain ⟨lj, gj⟩ := List.getElem?_eq_some_iff.mp hj
    intro hp
    rcases Nat.lt_or_gt_of_ne ne with q | q
    · have := pw j k lj li q
      rw [gi, gj] at this
      exact this a hp hold
    · have := pw k j li lj q
      rw [gi, gj] at this
      exact this a hold hp
  have nota : ∀ b u, F.H0 b = some u → (∀ j, F.P j ≠ some b) → b ≠ a := fun b u h1 h2 q => by
    subst q
    cases ks with
    | own => obtain ⟨x, e1, _, _, e2⟩ := one0; cases e1; rw [h1] at e2; cases e2
    | lent j => obtain ⟨x, e1, _, _, e2⟩ := one0; cases e1; exact h2 j e2
  refine ⟨by rw [List.length_set]; exact r.len, r.fl.set na k, r.le0.trans l, l', fun b u h1 h2 h3 => kp b u (r.pres b u h1 h2 h3) (nota b u h1 h2) h3, fun b h => r.dom b (d b h), fun b u h => ?_, fun p hp => ?_, ?_, t⟩
  · rcases n b u h with q | q
    · exact r.new b u q
    · exact .inr (r.dom b q)
  · rw [sz] at hp
    obtain ⟨j, lj, gj⟩ := List.getElem_of_mem hp
    rw [List.length_set] at lj
    by_cases hj : k = j
    · subst hj
      rw [List.getElem_set_self] at gj
      rw [← gj]
      cases ks with
      | own => obtain ⟨x, e1, _, _, e2⟩ := one0; cases e1; exact ⟨a, rfl, w, fa, e2⟩
      | lent i => obtain ⟨x, e1, _, _, e2⟩ := one0; cases e1; exact ⟨a, rfl, w, fa, e2⟩
    · rw [List.getElem_set_ne hj] at gj
      have gj' : (both σ τ tm)[j]? = some p := by rw [List.getElem?_eq_getElem lj, gj]
      have op := r.one p (by rw [← gj]; exact List.getElem_mem _)
      have o1 : One F Φ' H' σ τ p := op.step l fun b hb => by
        have ne : b ≠ a := fun q => ap j p gj' (Ne.symm hj) (by rw [← q]; exact hb)
        refine ⟨fun u h1 h2 => kp b u h1 ne h2, ?_⟩
        obtain ⟨q1, ob, q2⟩ := op.own hb
        obtain ⟨u, q3, _⟩ := q2.there
        cases q : Φ' b with
        | none => rfl
        | some z =>
          rcases n b z q with y | y
          · rw [q1] at y; cases y
          · rw [q3] at y; cases y
      obtain ⟨pv, ps⟩ := p
      cases ps with
      | ali i =>
        obtain ⟨x, s2, f1, f2, f3, f4⟩ := o1
        by_cases hk : k = i
        · subst hk
          refine ⟨x, s', f1, f2, ?_, ?_⟩
          · rw [List.getElem?_set_self hi]
          · cases ks <;> trivial
        · exact ⟨x, s2, f1, f2, by rw [List.getElem?_set_ne hk]; exact f3, f4⟩
      | raw => exact o1
      | non => exact o1
      | val _ => exact o1
      | own _ => exact o1
      | lent _ _ => exact o1
  · rw [sz, List.pairwise_iff_getElem]
    have pw := List.pairwise_iff_getElem.mp r.nd
    intro i j hi' hj' lt
    rw [List.length_set] at hi' hj'
    by_cases h1 : k = i
    · subst h1
      rw [List.getElem_set_self, List.getElem_set_ne (by omega)]
      intro b hb hq
      rw [hold'] at hb
      cases hb
      exact ap j _ (List.getElem?_eq_getElem hj') (by omega) hq
    · rw [List.getElem_set_ne h1]
      by_cases h2 : k = j
      · subst h2
        rw [List.getElem_set_self]
        intro b hb hq
        rw [hold'] at hq
        cases hq
        exact ap i _ (List.getElem?_eq_getElem hi') (by omega) hb
      · rw [List.getElem_set_ne h2]
        exact pw i j hi' hj' lt
theorem tabs_write {T : List (Addr × Str)} {a : Addr} {u u' : HO} (t : LamX.Tabs T H) (h : H a = some u) (h1 : ∀ ps, u ≠ .tbl ps) (h2 : ∀ φ, u ≠ .ext φ) : LamX.Tabs T (upd H a u') := fun p hp => by
  obtain ⟨ps, e1, e2, e3⟩ := t p hp
  have n1 : p.1 ≠ a := fun q => by
    rw [q, h] at e1
    cases e1
    exact h1 ps rfl
  refine ⟨ps, by rw [upd_ne n1]; exact e1, e2, fun pos cv hc => ?_⟩
  obtain ⟨c, e4, e5⟩ := e3 pos cv hc
  have n2 : c ≠ a := fun q => by
    rw [q, h] at e5
    cases e5
    exact h2 _ rfl
  exact ⟨c, e4, by rw [upd_ne n2]; exact e5⟩
/-- one object of ours is written -/
theorem Rl.wrote (r : Rl F Φ H σ τ tm) {k : Nat} {s s' : S} {a : Addr} {o o' : O} {u u' : HO} (e : τ[k]? = some s) (es : σ[k]? = some (some (.ref a))) (ks : Kin s s' o o') (h : H a = some u) (h1 : ∀ ps, u ≠ .tbl ps) (h2 : ∀ φ, u ≠ .ext φ) (w : Ow F.G Φ (upd H a u') a o') : Rl F Φ (upd H a u') σ (τ.set k s') tm := by
  have hold : holds (some (.ref a), s) = some a := by cases ks <;> rfl
  obtain ⟨v, e1, em, o1⟩ := r.at e
  rw [es] at e1
  cases e1
  have fa := (o1.own hold).1
  exact r.write e es ks (Le.refl _) (fun b z q => by
    rw [upd_ne (fun x => by rw [x, fa] at q; cases q)]
    exact r.le _ _ q) (fun b z q ne _ => by rw [upd_ne ne]; exact q) (fun b z q => .inl q) ⟨tabs_write r.tabs.1 h h1 h2, r.tabs.2⟩ (fun b q => by
    by_cases x : b = a
    · subst x; rw [upd_same] at q; cases q
    · rw [upd_ne x] at q; exact q) w fa

/-! #### the promise of a def -/
def argS : S → Prop
  | .val _ => True
  | .lent _ _ => True
  | _ => False
abbrev Fn := List S → R (S × List S)
def spM (G : Gx) (n : Nat) (mf : Fn) : Sp := fun vs H Q E => ∃ Φ P ss, ss.length = n ∧ Rl ⟨G, Φ, H, P, none⟩ Φ H (vs.map some) ss [] ∧ (∀ s ∈ ss, argS s) ∧ match mf ss with
  | .ok (r, ss') => ∀ v H' Φ', Rl ⟨G, Φ, H, P, none⟩ Φ' H' (vs.map some) ss' [(some v, r)] → Q v H'
  | .exc c fs ss' => ∀ cls d H' Φ', Rl ⟨G, Φ, H, P, none⟩ Φ' H' (vs.map some) ss' [] → ExR ⟨G, Φ, H, P, none⟩ Φ' H' cls d c fs → E cls d H'
  | .stuck => False
/-- what was lent, as it is handed back -/
def back : List S → List S → Option (List S)
  | [], _ => some []
  | .lent j _ :: ss, .lent j' o :: τ => if j = j' then (back ss τ).map (.lent j o :: ·) else none
  | .lent _ _ :: _, _ => none
  | _ :: ss, _ :: τ => (back ss τ).map (.non :: ·)
  | _ :: _, [] => none
def retS : S → Bool
  | .val _ => true
  | .own _ => true
  | _ => false
def runFn (np n : Nat) (m : M Fl) : Fn := fun ss => if ¬ ss.length = np then .stuck else match m (ss ++ List.replicate (n - ss.length) .non) with
  | .ok (f, τ) => (match f with
    | .nx => (match back ss τ with
      | some ss' => .ok (.val .non, ss')
      | none => .stuck)
    | .rt s => if retS s = true then (match back ss τ with
      | some ss' => .ok (s, ss')
      | none => .stuck) else .stuck
    | _ => .stuck)
  | .exc c fs τ => (match back ss τ with
    | some ss' => .exc c fs ss'
    | none => .stuck)
  | .stuck => .stuck
/-- item by item the same, or nothing of ours -/
inductive Thin : Env1 → Env1 → Prop
  | nil (l : Env1) : Thin l l
  | keep {p : Option V × S} {l' l : Env1} : Thin l' l → Thin (p :: l') (p :: l)
  | drop {p q : Option V × S} {l' l : Env1} : p.2 = .non → Thin l' l → Thin (p :: l') (q :: l)
  | skip {q : Option V × S} {l' l : Env1} : Thin l' l → Thin l' (q :: l)
theorem Thin.mem {l' l : Env1} (h : Thin l' l) : ∀ p ∈ l', p ∈ l ∨ p.2 = .non := by
  induction h with
  | nil l => exact fun p hp => .inl hp
  | keep _ ih =>
    intro p hp
    rcases List.mem_cons.mp hp with e | hp
    · rw [e]; exact .inl List.mem_cons_self
    · exact (ih p hp).imp (List.mem_cons_of_mem _) id
  | drop e _ ih =>
    intro p hp
    rcases List.mem_cons.mp hp with e' | hp
    · rw [e']; exact .inr e
    · exact (ih p hp).imp (List.mem_cons_of_mem _) id
  | skip _ ih => exact fun p hp => (ih p hp).imp (List.mem_cons_of_mem _) id
theorem holds_non' {p : Option V × S} (h : p.2 = .non) : holds p = none := by
  obtain ⟨v, s⟩ := p
  simp only at h
  subst h
  exact holds_non
theorem Thin.pw {l' l : Env1} (h : Thin l' l) (w : l.Pairwise Apart) : l'.Pairwise Apart := by
  induction h with
  | nil l => exact w
  | keep t ih =>
    obtain ⟨w1, w2⟩ := List.pairwise_cons.mp w
    refine List.pairwise_cons.mpr ⟨fun q hq => ?_, ih w2⟩
    rcases t.mem q hq with z | z
    · exact w1 q z
    · exact (apart_none (holds_non' z)).symm
  | drop e t ih => exact List.pairwise_cons.mpr ⟨fun q hq => apart_none (holds_non' e), ih (List.pairwise_cons.mp w).2⟩
  | skip _ ih => exact ih (List.pairwise_cons.mp w).2
theorem Thin.one {l' l : Env1} (h : Thin l' l) (w : ∀ p ∈ l, One F Φ H σ τ p) : ∀ p ∈ l', One F Φ H σ τ p := fun p hp => by
  rcases h.mem p hp with z | z
  · exact w p z
  · obtain ⟨v, s⟩ := p
    simp only at z
    subst z
    trivial
theorem Thin.skips : ∀ (k l : Env1), Thin l (k ++ l)
  | [], l => .nil l
  | _ :: k, l => .skip (Thin.skips k l)
/-- what was lent stands where it stood -/
def LentAt (P : Nat → Option Addr) : List V → List S → Prop
  | v :: vs, .lent j _ :: ss => (∃ a, v = .ref a ∧ P j = some a) ∧ LentAt P vs ss
  | _ :: vs, _ :: ss => LentAt P vs ss
  | _, _ => True
theorem back_thin : ∀ {vs : List V} {ss τ ss' : List S} {σ : L2.St} {tm : Env1}, vs.length = ss.length → σ.length = τ.length → LentAt F.P vs ss → back ss τ = some ss' → (∀ p ∈ σ.zip τ, ∀ j o, p.2 = .lent j o → ∃ a, p.1 = some (.ref a) ∧ F.P j = some a) →
    Thin ((vs.map some).zip ss' ++ tm) (σ.zip τ ++ tm) ∧ ss'.length = vs.length ∧ Flat ss'
  | vs, [], τ, ss', σ, tm, l, _, _, e, _ => by
    cases e
    have : vs = [] := List.length_eq_zero_iff.mp l
    subst this
    exact ⟨Thin.skips _ _, rfl, fun _ h => nomatch h⟩
  | [], _ :: _, _, _, _, _, l, _, _, _, _ => by cases l
  | v :: vs, s :: ss, [], ss', σ, tm, l, _, _, e, _ => by cases s <;> cases e
  | v :: vs, s :: ss, t :: τ, ss', [], tm, l, l2, _, e, _ => by cases l2
  | v :: vs, s :: ss, t :: τ, ss', x :: σ, tm, l, l2, la, e, pl => by
    have pl' : ∀ p ∈ σ.zip τ, ∀ j o, p.2 = .lent j o → ∃ a, p.1 = some (.ref a) ∧ F.P j = some a := fun p hp => pl p (List.mem_cons_of_mem _ hp)
    have plain : ∀ ss1, back ss τ = some ss1 → ss' = .non :: ss1 → LentAt F.P vs ss → Thin (((v :: vs).map some).zip ss' ++ tm) ((x :: σ).zip (t :: τ) ++ tm) ∧ ss'.length = (v :: vs).length ∧ Flat ss' := fun ss1 e1 e2 la1 => by
      subst e2
      obtain ⟨h1, h2, h3⟩ := back_thin (tm := tm) (by simpa using l) (by simpa using l2) la1 e1 pl'
      refine ⟨.drop rfl h1, by simp [h2], fun s hs => ?_⟩
      rcases List.mem_cons.mp hs with q | q
      · rw [q]; trivial
      · exact h3 s q
    have go : ∀ {o : Option (List S)}, (o.map (S.non :: ·)) = some ss' → ∃ ss1, o = some ss1 ∧ ss' = .non :: ss1 := fun {o} h => by
      obtain ⟨a, b, c⟩ := Option.map_eq_some_iff.mp h
      exact ⟨a, b, c.symm⟩
    cases s with
    | lent j o =>
      cases t with
      | lent j' o' =>
        unfold back at e
        split at e
        · rename_i ej
          subst ej
          obtain ⟨ss1, e1, e2⟩ := Option.map_eq_some_iff.mp e
          subst e2
          obtain ⟨⟨a, ea, pa⟩, la1⟩ := la
          obtain ⟨h1, h2, h3⟩ := back_thin (tm := tm) (by simpa using l) (by simpa using l2) la1 e1 pl'
          obtain ⟨b, eb, pb⟩ := pl (x, .lent j o') List.mem_cons_self j o' rfl
          rw [pa] at pb
          cases pb
          simp only at eb
          subst eb ea
          refine ⟨.keep h1, by simp [h2], fun s hs => ?_⟩
          rcases List.mem_cons.mp hs with q | q
          · rw [q]; trivial
          · exact h3 s q
        · cases e
      | _ => cases e
    | raw => obtain ⟨ss1, e1, e2⟩ := go (show (back ss τ).map _ = _ from e); exact plain ss1 e1 e2 la
    | non => obtain ⟨ss1, e1, e2⟩ := go (show (back ss τ).map _ = _ from e); exact plain ss1 e1 e2 la
    | val d => obtain ⟨ss1, e1, e2⟩ := go (show (back ss τ).map _ = _ from e); exact plain ss1 e1 e2 la
    | own o => obtain ⟨ss1, e1, e2⟩ := go (show (back ss τ).map _ = _ from e); exact plain ss1 e1 e2 la
    | ali i => obtain ⟨ss1, e1, e2⟩ := go (show (back ss τ).map _ = _ from e); exact plain ss1 e1 e2 la
theorem lentAt_of : ∀ {vs : List V} {ss : List S}, (∀ p ∈ (vs.map some).zip ss, ∀ j o, p.2 = .lent j o → ∃ a, p.1 = some (.ref a) ∧ F.P j = some a) → LentAt F.P vs ss
  | [], _, _ => trivial
  | _ :: _, [], _ => trivial
  | v :: vs, s :: ss, h => by
    have ih := lentAt_of (vs := vs) (ss := ss) fun p hp => h p (List.mem_cons_of_mem _ hp)
    cases s with
    | lent j o =>
      obtain ⟨a, e, p⟩ := h (some v, .lent j o) List.mem_cons_self j o rfl
      cases e
      exact ⟨⟨a, rfl, p⟩, ih⟩
    | raw => exact ih
    | non => exact ih
    | val _ => exact ih
    | own _ => exact ih
    | ali _ => exact ih
theorem Rl.lents (r : Rl F Φ H σ τ tm) : ∀ p ∈ σ.zip τ, ∀ j o, p.2 = .lent j o → ∃ a, p.1 = some (.ref a) ∧ F.P j = some a := fun p hp j o e => by
  have q := r.one p (List.mem_append_left _ hp)
  obtain ⟨v, s⟩ := p
  simp only at e
  subst e
  obtain ⟨a, e1, _, _, e2⟩ := q
  exact ⟨a, e1, e2⟩
theorem Rl.backed (r : Rl F Φ H σ τ tm) (nt : Quiet tm) {vs : List V} {ss ss' : List S} (l : vs.length = ss.length) (la : LentAt F.P vs ss) (e : back ss τ = some ss') : Rl F Φ H (vs.map some) ss' tm := by
  obtain ⟨h1, h2, h3⟩ := back_thin (tm := tm) l r.len la e r.lents
  refine ⟨by rw [List.length_map, h2], h3, r.le0, r.le, r.pres, r.dom, r.new, fun p hp => ?_, h1.pw r.nd, r.tabs⟩
  refine (h1.one r.one p hp).slots ?_
  rcases List.mem_append.mp hp with q | q
  · exact h3 _ (List.of_mem_zip q).2
  · exact nt p q
theorem zip_replicate {α β : Type} (x : α) (y : β) (n : Nat) : (List.replicate n x).zip (List.replicate n y) = List.replicate n (x, y) := by
  induction n with
  | zero => rfl
  | succ n ih => rw [List.replicate_succ, List.replicate_succ, List.replicate_succ, List.zip_cons_cons, ih]
theorem Rl.start (r : Rl F Φ H (vs.map some) ss []) (N : List Str) (hf : ∀ s ∈ ss, argS s) : Rl F Φ H (L2.start N vs) (ss ++ List.replicate (N.length - ss.length) .non) [] := by
  have l : vs.length = ss.length := by simpa using r.len
  have z : (L2.start N vs).zip (ss ++ List.replicate (N.length - ss.length) .non) = (vs.map some).zip ss ++ List.replicate (N.length - ss.length) (none, S.non) := by
    unfold L2.start
    rw [l, List.zip_append (by simp [l]), zip_replicate]
  have nn : ∀ p ∈ List.replicate (N.length - ss.length) ((none : Option V), S.non), p = (none, .non) := fun p hp => List.eq_of_mem_replicate hp
  refine ⟨by unfold L2.start; simp [l], fun s hs => ?_, r.le0, r.le, r.pres, r.dom, r.new, fun p hp => ?_, ?_, r.tabs⟩
  · rcases List.mem_append.mp hs with q | q
    · exact r.fl s q
    · rw [List.eq_of_mem_replicate q]; trivial
  · rw [both, List.append_nil, z] at hp
    rcases List.mem_append.mp hp with q | q
    · exact (r.one p (List.mem_append_left _ q)).slots (r.fl _ (List.of_mem_zip q).2)
    · rw [nn p q]; trivial
  · rw [both, List.append_nil, z, List.pairwise_append]
    refine ⟨(List.pairwise_append.mp r.nd).1, ?_, fun p _ q hq => ?_⟩
    · refine List.Pairwise.imp_of_mem (fun {a b} ha _ _ => ?_) (List.pairwise_replicate.mpr (.inr trivial) : (List.replicate _ ((none : Option V), S.non)).Pairwise (fun _ _ => True))
      rw [nn a ha]
      exact apart_none rfl
    · rw [nn q hq]
      exact (apart_none (p := ((none : Option V), S.non)) rfl).symm
end

/-- a body, mirrored, keeps the promise -/
theorem body_sp {P : Program} {w : World} {mg : Str → Option Value} {base : Heap} {G : Gx} {qual : Str} {scope : Scope} {bdy : List Stmt} {f : Addr} {N ps : List Str} {k : Nat} {m : M Fl} {cdv : Value} (Sc : FnScope N ps scope) {A : Around} {outer : List Env} {s : Shared} {vs : List V} {H : Hp} {Q : VK} {E : XK}
    (hr : Room k (A.deeper (envOfC qual scope s.heap.objs.size f cdv))) (h : spM G ps.length (runFn ps.length N.length m) vs H Q E)
    (body : ∀ (F : Fm), F.G = G → Fits (cxOf (L2.CX P w) P w G.K mg base N qual scope f cdv A outer s H E) F (fun cls d _ H => E cls d H) → BlM (cxOf (L2.CX P w) P w G.K mg base N qual scope f cdv A outer s H E) F (fun cls d _ H => E cls d H) bdy m) :
    ∃ t, PSs (cxOf (L2.CX P w) P w G.K mg base N qual scope f cdv A outer s H E) bdy t ∧ t { nx := fun _ H' => Q .non H', rt := Q } (L2.start N vs) H := by
  obtain ⟨Φ, Pl, ss, l, r, ha, h⟩ := h
  have tk : Takes (cxOf (L2.CX P w) P w G.K mg base N qual scope f cdv A outer s H E) (fun cls d _ H => E cls d H) := takes_of rfl rfl rfl rfl
  have po : PassesOwn (model P w) (cxOf (L2.CX P w) P w G.K mg base N qual scope f cdv A outer s H E).A (cxOf (L2.CX P w) P w G.K mg base N qual scope f cdv A outer s H E).env (cxOf (L2.CX P w) P w G.K mg base N qual scope f cdv A outer s H E).xe := passes_of (X := cxOf (L2.CX P w) P w G.K mg base N qual scope f cdv A outer s H E) rfl
  refine ⟨_, body ⟨G, Φ, H, Pl, none⟩ rfl ⟨rfl, Sc.nd, rfl, tk, po⟩, Φ, _, [], (fun _ h => nomatch h), r.start N ha, ?_⟩
  have lv : vs.length = ss.length := by simpa using r.len
  have la : LentAt Pl vs ss := lentAt_of (F := ⟨G, Φ, H, Pl, none⟩) r.lents
  generalize hm : m (ss ++ List.replicate (N.length - ss.length) .non) = o
  unfold runFn at h
  rw [if_neg (Decidable.not_not.mpr l), hm] at h
  cases o with
  | stuck => exact h.elim
  | exc c fs τ =>
    intro cls d σ' H' Φ' r' x'
    cases e : back ss τ with
    | none => simp only [e] at h
    | some ss' =>
      simp only [e] at h
      exact h cls d H' Φ' (r'.backed (fun _ h => nomatch h) lv la e) x'
  | ok p =>
    obtain ⟨f, τ⟩ := p
    cases f with
    | bk => exact h.elim
    | ct => exact h.elim
    | nx =>
      intro σ' H' Φ' r'
      cases e : back ss τ with
      | none => simp only [e] at h
      | some ss' =>
        simp only [e] at h
        exact h .non H' Φ' ((r'.backed (fun _ h => nomatch h) lv la e).val .non)
    | rt s' =>
      intro v σ' H' Φ' r'
      cases q : retS s' with
      | false => simp only [q, Bool.false_eq_true, if_false] at h
      | true =>
        simp only [q, if_true] at h
        cases e : back ss τ with
        | none => simp only [e] at h
        | some ss' =>
          simp only [e] at h
          refine h v H' Φ' (r'.backed (fun p hp => ?_) lv la e)
          cases hp with
          | head => cases s' <;> first | trivial | cases q
          | tail _ hp => cases hp
end Mi

/-! ### M7: calls of defs -/
namespace Mi
open PySem PySem.Spec PyProof.Rows L2

/-- f(..), every argument a plain value -/
def eCallV (mf : Fn) (ms : M (List S)) : M S := M.bnd ms fun ss => M.bnd (takeAll ss) fun ds => fun τ => match mf (ds.map S.val) with
  | .ok (r, _) => .ok (r, τ)
  | .exc c fs _ => .exc c fs τ
  | .stuck => .stuck
/-- how what was lent comes back into the slot k -/
def hand (k : Nat) (mk : O → S) (τ : List S) (out : List S) : Option (List S) := match out with
  | .lent _ o :: _ => some (τ.set k (mk o))
  | _ => none
def lendTo (mf : Fn) (k : Nat) (o : O) (mk : O → S) (ds : List D) (τ : List S) : R (S × List S) := match mf (.lent 0 o :: ds.map S.val) with
  | .ok (r, out) => (match hand k mk τ out with
    | some τ' => .ok (r, τ')
    | none => .stuck)
  | .exc c fs out => (match hand k mk τ out with
    | some τ' => .exc c fs τ'
    | none => .stuck)
  | .stuck => .stuck
/-- f(x, ..), the first argument lent -/
def eCallL (mf : Fn) (ms : M (List S)) : M S := M.bnd ms fun ss => match ss with
  | .ali k :: rest => M.bnd (takeAll rest) fun ds => fun τ => match τ[k]? with
    | some (.own o) => lendTo mf k o .own ds τ
    | some (.lent j o) => lendTo mf k o (.lent j) ds τ
    | _ => .stuck
  | _ => fun _ => .stuck
section
variable {F : Fm} {W : WX} {Φ Φ' H H' : Hp} {σ σc : L2.St} {τ τ' ssc : List S} {tm tmc : Env1}
/-- behind a call that was lent nothing -/
theorem Rl.after0 {P : Nat → Option Addr} (r : Rl F Φ H σ τ tm) (c : Rl ⟨F.G, Φ, H, P, none⟩ Φ' H' σc ssc tmc) (hP : ∀ n, P n = none) : Rl F Φ' H' σ τ tm :=
  r.grow c.le0 c.le (fun b o h h2 => c.pres b o h (fun j z => by rw [show (⟨F.G, Φ, H, P, none⟩ : Fm).P j = P j from rfl, hP j] at z; cases z) h2) (fun b o h => c.new b o h) c.tabs c.dom
/-- what the callee hands back joins -/
theorem Rl.handed {P : Nat → Option Addr} {r' : S} {v : V} (r : Rl F Φ' H' σ τ tm) (r0 : ∀ b, H b = none → F.H0 b = none) (there : ∀ p ∈ both σ τ tm, ∀ a, holds p = some a → H a ≠ none) (o : One ⟨F.G, Φ, H, P, none⟩ Φ' H' σc ssc (some v, r')) (n : retS r' = true) : Rl F Φ' H' σ τ ((some v, r') :: tm) := by
  cases r' with
  | val d =>
    obtain ⟨x, e, q⟩ := o
    cases e
    exact r.val q
  | own ob =>
    obtain ⟨a, e, q1, q2, q3⟩ := o
    cases e
    refine r.put (p := (some (.ref a), .own ob)) ⟨a, rfl, q1, q2, r0 a q3⟩ fun q hq b hb hb2 => ?_
    cases hb
    exact there q hq a hb2 q3
  | raw => cases n
  | non => cases n
  | ali i => cases n
  | lent j o => cases n
theorem Rl.there (r : Rl F Φ H σ τ tm) : ∀ p ∈ both σ τ tm, ∀ a, holds p = some a → H a ≠ none := fun p hp a ha z => by
  obtain ⟨_, o, q⟩ := (r.one p hp).own ha
  obtain ⟨u, e, _⟩ := q.there
  rw [z] at e; cases e
theorem runFn_ret {np n : Nat} {m : M Fl} {ss ss' : List S} {r : S} (h : runFn np n m ss = .ok (r, ss')) : retS r = true := by
  unfold runFn at h
  split at h
  · cases h
  split at h
  · split at h
    · split at h
      · cases h; rfl
      · cases h
    · split at h
      · rename_i q
        split at h
        · cases h; exact q
        · cases h
      · cases h
    · cases h
  · split at h <;> cases h
  · cases h
/-- a callee's mirror gives values or what is new -/
def Proper (mf : Fn) : Prop := ∀ ss r ss', mf ss = .ok (r, ss') → retS r = true
theorem proper_run {np n : Nat} {m : M Fl} : Proper (runFn np n m) := fun _ _ _ h => runFn_ret h
theorem arity_run {np n : Nat} {m : M Fl} : ∀ ss, runFn np n m ss ≠ .stuck → ss.length = np := fun ss h => by
  unfold runFn at h
  split at h
  · exact absurd rfl h
  · rename_i z
    exact Decidable.not_not.mp z
/-- the frame of a callee that is lent nothing -/
theorem Rl.enter0 (r : Rl F Φ H σ τ tm) {vs : List V} {ds : List D} (q : FzL F.G Φ vs ds) : Rl ⟨F.G, Φ, H, fun _ => none, none⟩ Φ H (vs.map some) (ds.map S.val) [] := by
  have base : Rl ⟨F.G, Φ, H, fun _ => none, none⟩ Φ H ([] : L2.St) [] [] := ⟨rfl, (fun _ h => nomatch h), Le.refl _, r.le, (fun b o h _ _ => h), (fun b h => h), (fun b o h => .inl h), (fun _ h => nomatch h), List.Pairwise.nil, r.tabs⟩
  have b2 := base.vals q
  rw [List.append_nil] at b2
  refine ⟨by rw [List.length_map, List.length_map, q.length], fun s hs => ?_, b2.le0, b2.le, b2.pres, b2.dom, b2.new, fun p hp => ?_, ?_, b2.tabs⟩
  · obtain ⟨d, _, e⟩ := List.mem_map.mp hs
    rw [← e]; trivial
  · rw [both, List.append_nil] at hp
    refine (b2.one p hp).slots ?_
    obtain ⟨d, _, e⟩ := List.mem_map.mp (List.of_mem_zip hp).2
    rw [← e]; trivial
  · rw [both, List.append_nil]
    exact b2.nd
theorem t_callV {mf : Fn} {ms : M (List S)} {n : Nat} {Q : VK} (pr : Proper mf) (hn : ∀ ds : List D, mf (ds.map S.val) ≠ .stuck → ds.length = n) (h : TEm F W (eCallV mf ms) σ H Q) : TLm F W ms σ H fun vs H1 => spM F.G n mf vs H1 Q (WE W σ) := by
  obtain ⟨Φ, τ, tm, rl, h⟩ := h
  refine tl_go rl h.bnd fun ss τ1 vs H1 Φ1 p1 l r1 => ?_
  obtain ⟨ds, τ2, e, p2⟩ := takeAll_cases (Wp.bnd p1)
  obtain ⟨Φ2, r2, q⟩ := Rl.takenAll l r1 e
  have ne : mf (ds.map S.val) ≠ .stuck := fun z => by
    unfold Wp at p2
    rw [z] at p2
    exact p2
  refine ⟨Φ2, fun _ => none, ds.map S.val, by rw [List.length_map]; exact hn ds ne, r2.enter0 q, fun s hs => ?_, ?_⟩
  · obtain ⟨d, _, e⟩ := List.mem_map.mp hs
    rw [← e]; trivial
  · cases hm : mf (ds.map S.val) with
    | stuck => exact ne hm
    | ok p =>
      obtain ⟨r, out⟩ := p
      rw [hm] at p2
      intro v H' Φ' c
      have r3 := r2.after0 c fun _ => rfl
      exact p2 v H' Φ' (r3.handed (H := H1) (P := fun _ => none) r2.dom (fun p hp a ha => r2.there p hp a ha) c.hd (pr _ _ _ hm))
    | exc c fs out =>
      rw [hm] at p2
      intro cls d H' Φ' c1 x
      have r3 := r2.after0 c1 fun _ => rfl
      exact p2 cls d σ H' Φ' r3 x
theorem Rl.enter1 (r : Rl F Φ H σ τ tm) {vs : List V} {ds : List D} {a : Addr} {o : O} (q : FzL F.G Φ vs ds) (w : Ow F.G Φ H a o) (fa : Φ a = none) : Rl ⟨F.G, Φ, H, fun n => if n = 0 then some a else none, none⟩ Φ H ((V.ref a :: vs).map some) (.lent 0 o :: ds.map S.val) [] := by
  have base : Rl ⟨F.G, Φ, H, fun n => if n = 0 then some a else none, none⟩ Φ H ([] : L2.St) [] [] := ⟨rfl, (fun _ h => nomatch h), Le.refl _, r.le, (fun b o h _ _ => h), (fun b h => h), (fun b o h => .inl h), (fun _ h => nomatch h), List.Pairwise.nil, r.tabs⟩
  have b1 := base.vals q
  rw [List.append_nil] at b1
  have b2 : Rl ⟨F.G, Φ, H, fun n => if n = 0 then some a else none, none⟩ Φ H ([] : L2.St) [] ((some (.ref a), .lent 0 o) :: Mi.air vs ds) := b1.put (p := (some (.ref a), .lent 0 o)) ⟨a, rfl, w, fa, rfl⟩ fun p hp b hb hq => by
    have := (List.of_mem_zip (show p ∈ (vs.map some).zip (ds.map S.val) from hp)).2
    obtain ⟨d, _, e⟩ := List.mem_map.mp this
    obtain ⟨pv, ps⟩ := p
    simp only at e
    subst e
    rw [holds_val] at hq
    cases hq
  have na : ∀ s ∈ (S.lent 0 o :: ds.map S.val), s.noali := fun s hs => by
    rcases List.mem_cons.mp hs with e | hs
    · rw [e]; trivial
    · obtain ⟨d, _, e⟩ := List.mem_map.mp hs
      rw [← e]; trivial
  refine ⟨by simp [q.length], na, b2.le0, b2.le, b2.pres, b2.dom, b2.new, fun p hp => ?_, ?_, b2.tabs⟩
  · rw [both, List.append_nil] at hp
    exact (b2.one p hp).slots (na _ (List.of_mem_zip hp).2)
  · rw [both, List.append_nil]
    exact b2.nd
theorem lend_ok {mf : Fn} {Q : VK} {k : Nat} {o : O} {mk : O → S} {a : Addr} {s : S} {n : Nat} {vs : List V} {ds : List D} (pr : Proper mf) (hn : ds.length + 1 = n) (r : Rl F Φ H σ τ tm) (q : FzL F.G Φ vs ds) (e : τ[k]? = some s) (es : σ[k]? = some (some (.ref a))) (ks : ∀ o', Kin s (mk o') o o')
    (h : Wp F W tm (lendTo mf k o mk ds τ) fun s τ' => ∀ v H' Φ', Rl F Φ' H' σ τ' ((some v, s) :: tm) → Q v H') : spM F.G n mf (.ref a :: vs) H Q (WE W σ) := by
  have hold : holds (some (.ref a), s) = some a := by
    have := ks o
    generalize mk o = mo at this
    cases this <;> rfl
  obtain ⟨v, e1, em, o1⟩ := r.at e
  rw [es] at e1
  cases e1
  have fa := (o1.own hold).1
  have w : Ow F.G Φ H a o := by
    have := ks o
    generalize mk o = mo at this
    cases this with
    | own => obtain ⟨x, e2, w, _⟩ := o1; cases e2; exact w
    | lent => obtain ⟨x, e2, w, _⟩ := o1; cases e2; exact w
  have back : ∀ {Φ' H' : Hp} {out : List S} {τ' : List S} {tmc : Env1}, Rl ⟨F.G, Φ, H, fun n => if n = 0 then some a else none, none⟩ Φ' H' ((V.ref a :: vs).map some) out tmc → hand k mk τ out = some τ' → Rl F Φ' H' σ τ' tm := fun {Φ' H' out τ' tmc} c hh => by
    unfold hand at hh
    split at hh
    · rename_i j o' rest
      cases hh
      obtain ⟨b, e2, w2, fb, pb⟩ := c.one (some (.ref a), .lent j o') (List.mem_append_left _ (by
        show _ ∈ ((some (V.ref a)) :: vs.map some).zip (.lent j o' :: rest)
        exact List.mem_cons_self))
      cases e2
      refine r.write e es (ks o') c.le0 c.le (fun b u h1 ne h2 => c.pres b u h1 (fun j z => ?_) h2) (fun b u h1 => c.new b u h1) c.tabs c.dom w2 fb
      by_cases hj : j = 0
      · have z' : some a = some b := by rw [← z]; exact (if_pos hj).symm
        cases z'; exact ne rfl
      · have z' : none = some b := by rw [← z]; exact (if_neg hj).symm
        cases z'
    · cases hh
  refine ⟨Φ, _, .lent 0 o :: ds.map S.val, by simpa using hn, r.enter1 q w fa, fun s hs => ?_, ?_⟩
  · rcases List.mem_cons.mp hs with e | hs
    · rw [e]; trivial
    · obtain ⟨d, _, e⟩ := List.mem_map.mp hs
      rw [← e]; trivial
  · unfold lendTo at h
    cases hm : mf (.lent 0 o :: ds.map S.val) with
    | stuck => rw [hm] at h; exact h.elim
    | ok p =>
      obtain ⟨r', out⟩ := p
      rw [hm] at h
      simp only at h
      intro v H' Φ' c
      cases hh : hand k mk τ out with
      | none => rw [hh] at h; exact h.elim
      | some τ' =>
        rw [hh] at h
        have r3 := back c hh
        refine h v H' Φ' (r3.handed (H := H) (P := fun n => if n = 0 then some a else none) r.dom (fun p hp b hb => ?_) c.hd (pr _ _ _ hm))
        -- whatever is ours behind the call was there ahead of it
        intro z
        have pm : p ∈ both σ τ' tm := hp
        unfold hand at hh
        split at hh
        · rename_i j o' rest
          cases hh
          have hi : k < τ.length := (List.getElem?_eq_some_iff.mp e).1
          rcases List.mem_append.mp pm with pm | pm
          · have hs : σ.set k (some (V.ref a)) = σ := by
              apply List.ext_getElem?
              intro j
              by_cases hj : k = j
              · subst hj
                rw [List.getElem?_set_self (by rw [r.len]; exact hi)]
                exact es.symm
              · rw [List.getElem?_set_ne hj]
            have hz : σ.zip (τ.set k (mk o')) = (σ.zip τ).set k (some (.ref a), mk o') := by
              rw [← zip_set, hs]
            rw [hz] at pm
            rcases List.mem_or_eq_of_mem_set pm with pm | pm
            · exact r.there p (List.mem_append_left _ pm) b hb z
            · rw [pm] at hb
              have hb' : b = a := by
                have := ks o'
                generalize mk o' = mo at this hb
                cases this <;> (cases hb; rfl)
              obtain ⟨u, e3, _⟩ := w.there
              rw [hb', e3] at z; cases z
          · exact r.there p (List.mem_append_right _ pm) b hb z
        · cases hh
    | exc c fs out =>
      rw [hm] at h
      simp only at h
      intro cls d H' Φ' c1 x
      cases hh : hand k mk τ out with
      | none => rw [hh] at h; exact h.elim
      | some τ' =>
        rw [hh] at h
        exact h cls d σ H' Φ' (back c1 hh) x
theorem t_callL {mf : Fn} {ms : M (List S)} {n : Nat} {Q : VK} (pr : Proper mf) (hn : ∀ (o : O) (ds : List D), mf (.lent 0 o :: ds.map S.val) ≠ .stuck → ds.length + 1 = n) (h : TEm F W (eCallL mf ms) σ H Q) : TLm F W ms σ H fun vs H1 => spM F.G n mf vs H1 Q (WE W σ) := by
  obtain ⟨Φ, τ, tm, rl, h⟩ := h
  refine tl_go rl h.bnd fun ss τ1 vs H1 Φ1 p1 l r1 => ?_
  split at p1
  · rename_i k rest
    cases vs with
    | nil => cases l
    | cons v vs =>
      have l' : vs.length = rest.length := by simpa using l
      obtain ⟨ds, τ2, e, p2⟩ := takeAll_cases (Wp.bnd p1)
      have r1' : Rl F Φ1 H1 σ τ1 ((vs.map some).zip rest ++ ((some v, .ali k) :: tm)) := r1.air (.perm (by
        show ((some v, S.ali k) :: ((vs.map some).zip rest ++ tm)).Perm _
        exact List.perm_middle.symm))
      obtain ⟨Φ2, r2, q⟩ := Rl.takenAll l' r1' e
      obtain ⟨x, s, e1, e2, e3, _⟩ := r2.hd
      cases e1
      have st : ∀ o mk, Wp F W tm (lendTo mf k o mk ds τ2) (fun s τ' => ∀ v H' Φ', Rl F Φ' H' σ τ' ((some v, s) :: tm) → Q v H') → ds.length + 1 = n := fun o mk z => by
        refine hn o ds fun y => ?_
        unfold lendTo at z
        rw [y] at z
        exact z
      obtain ⟨y, e4, em, o1⟩ := r2.at e3
      rw [e2] at e4
      cases e4
      cases s with
      | own o =>
        simp only [e3] at p2
        obtain ⟨a, e5, _⟩ := o1
        cases e5
        exact lend_ok pr (st _ _ p2) r2.tl q e3 e2 (fun o' => .own o o') p2
      | lent j o =>
        simp only [e3] at p2
        obtain ⟨a, e5, _⟩ := o1
        cases e5
        exact lend_ok pr (st _ _ p2) r2.tl q e3 e2 (fun o' => .lent j o o') p2
      | raw => simp only [e3] at p2; exact p2.elim
      | non => simp only [e3] at p2; exact p2.elim
      | val d => simp only [e3] at p2; exact p2.elim
      | ali i => simp only [e3] at p2; exact p2.elim
  · exact p1.elim
end
section
variable {X : Cx} {F : Fm} {W : WX} {k : Nat} {f : Addr} {fd : FuncData} {ps : List Str} {mf : Fn} {ms : M (List S)} {x : Str} {p pos : Pos} {a : Expr} {es : List Expr}
/-- what a rule for calls asks of a def -/
structure DefOk (P : Program) (w : World) (K : PySem.W.Frag) (mg : Str → Option Value) (base : Heap) (G : Gx) (k : Nat) (x : Str) (n : Nat) (mf : Fn) : Prop where
  ex : ∃ f fd ps, FnOk P w K mg base (L2.CX P w) k f fd ps (spM G n mf) ∧ mg x = some (.ref f) ∧ PySem.W.keepIn K (.ref f) = true ∧ Binds K fd ps []
  pr : Proper mf
  ar : ∀ ss, mf ss ≠ .stuck → ss.length = n
theorem em_callV {n : Nat} (ft : Fits X F W) (hr : Room k X.A) (df : DefOk X.prog X.w X.K X.mg X.base F.G k x n mf) (ha : LM X F W (a :: es) ms) (hg : Gl X x := by rfl) (hdb : (x == ("__debug__" : Str)) = false := by decide) (he : starEach (a :: es) X.env = (false, eval a X.env) :: starEach es X.env := by rfl) (hpl : (backTo pos (starEach es X.env)).any (·.1) = false := by rfl) :
    EM X F W (.Call (.Name x p) (a :: es) [] pos) (eCallV mf ms) := by
  obtain ⟨f, fd, ps, G, gm, kp, b⟩ := df.ex
  exact PE.imp (pe_callS (E := WE W) G hr hg gm kp b (fun σ => passAt ft.tk σ) ha hdb he hpl) fun σ H Q h => t_callV df.pr (fun ds z => by simpa using df.ar _ z) h
theorem em_callL {n : Nat} (ft : Fits X F W) (hr : Room k X.A) (df : DefOk X.prog X.w X.K X.mg X.base F.G k x n mf) (ha : LM X F W (a :: es) ms) (hg : Gl X x := by rfl) (hdb : (x == ("__debug__" : Str)) = false := by decide) (he : starEach (a :: es) X.env = (false, eval a X.env) :: starEach es X.env := by rfl) (hpl : (backTo pos (starEach es X.env)).any (·.1) = false := by rfl) :
    EM X F W (.Call (.Name x p) (a :: es) [] pos) (eCallL mf ms) := by
  obtain ⟨f, fd, ps, G, gm, kp, b⟩ := df.ex
  exact PE.imp (pe_callS (E := WE W) G hr hg gm kp b (fun σ => passAt ft.tk σ) ha hdb he hpl) fun σ H Q h => t_callL df.pr (fun o ds z => by simpa using df.ar _ z) h
end
end Mi

/-! ### M8: loops -/
namespace Mi
open PySem PySem.Spec PyProof.Rows L2

/-- while these items are walked, this must stay of the slots -/
abbrev Pin := List S → Prop
/-- what an iterator yields, seen by plain data; base: what is in the air for it -/
def Yields (F : Fm) (J : It) (its : List D) (base : Env1) (pin : Pin) : Prop := ∀ {i : Nat} {Φ H : Hp} {σ : L2.St} {τ : List S} {tm : Env1}, Rl F Φ H σ τ (base ++ tm) → pin τ →
  (∀ d, its[i]? = some d → J.go i H ∧ ∀ x H2, J.yld i H x H2 → ∃ Φ2, Rl F Φ2 H2 σ τ ((some x, .val d) :: (base ++ tm))) ∧ (its.length ≤ i → J.stop i H)
def TIm (F : Fm) (W : WX) (mi : M (List D × Pin)) : TI := fun σ H Rr => ∃ Φ τ tm, Rl F Φ H σ τ tm ∧ Wp F W tm (mi τ) fun p τ' => ∀ J H' Φ' base, Quiet base → Rl F Φ' H' σ τ' (base ++ tm) → p.2 τ' → Yields F J p.1 base p.2 → Rr J H'
abbrev IM (X : Cx) (F : Fm) (W : WX) (tg e : Expr) (mi : M (List D × Pin)) : Prop := PI X tg e (TIm F W mi)
theorem PI.imp {X : Cx} {tg e : Expr} {t t' : TI} (h : PI X tg e t) (i : ∀ σ H Q, t' σ H Q → t σ H Q) : PI X tg e t' := ⟨fun pins s σ H Q I q => h.run pins s σ H Q I (i _ _ _ q)⟩
open Classical in
noncomputable def chk (p : Pin) : M Unit := fun τ => if p τ then .ok ((), τ) else .stuck
theorem Wp.chk {F : Fm} {W : WX} {p : Pin} {τ : List S} {K : Unit → List S → Prop} (h : Wp F W tm (chk p τ) K) : p τ ∧ K () τ := by
  unfold Mi.chk at h
  split at h
  · exact ⟨by assumption, h⟩
  · exact h.elim
/-- the turns of a for -/
noncomputable def loopM (pin : Pin) (g : MG) (body : M Fl) : List D → M Fl
  | [] => M.ret .nx
  | d :: ds => M.bnd (g (.val d)) fun _ => M.bnd body fun f => match f with
    | .nx => M.bnd (chk pin) fun _ => loopM pin g body ds
    | .ct => M.bnd (chk pin) fun _ => loopM pin g body ds
    | .bk => M.ret .nx
    | .rt s => M.ret (.rt s)
noncomputable def sFor (mi : M (List D × Pin)) (g : MG) (body : M Fl) : M Fl := M.bnd mi fun p => loopM p.2 g body p.1
section
variable {X : Cx} {F : Fm} {W : WX} {Φ Φ' H H' : Hp} {σ : L2.St} {τ τ' : List S} {tm : Env1} {tg iter : Expr} {mi : M (List D × Pin)} {g : MG} {body : M Fl} {pos : Pos}
theorem quiet_app {a b : Env1} (h : Quiet a) (k : Quiet b) : Quiet (a ++ b) := fun p hp => (List.mem_append.mp hp).elim (h p) (k p)
/-- the air of the iterator goes -/
theorem Rl.unbase {base : Env1} (r : Rl F Φ H σ τ (base ++ tm)) : Rl F Φ H σ τ tm := r.air (.of (List.sublist_append_right _ _))
theorem sm_for {b : List Stmt} {is : List Nat} (ft : Fits X F W) (hi : IM X F W tg iter mi) (hg : GM X F W tg is g) (hb : BlM X F W b body) (hs : ∀ x, foldedSetIterable iter X.env x = pure x := by intro _; rfl) : SM X F W (.For tg iter b [] pos) (sFor mi g body) := by
  refine PS.imp (ps_for ft.own ft.calm hi hg hb hs) fun D σ H ⟨Φ, τ, tm, qt, r, h⟩ => ?_
  refine ⟨Φ, τ, tm, r, (Wp.bnd h).mono fun p τ1 h1 J H1 Φ1 base qb r1 pn ys => ?_⟩
  obtain ⟨its, pin⟩ := p
  simp only at h1 pn ys
  refine ⟨fun i m σ H => ∃ Φ τ, Rl F Φ H σ τ (base ++ tm) ∧ pin τ ∧ m = its.length - i ∧ Wp F W tm (loopM pin g body (its.drop i) τ) (FlK F D tm), ⟨its.length, Φ1, τ1, r1, pn, by simp, by rw [List.drop_zero]; exact h1⟩, ?_⟩
  rintro i m σ2 H2 ⟨Φ2, τ2, r2, pn2, rfl, h2⟩
  obtain ⟨y1, y2⟩ := ys (i := i) r2 pn2
  by_cases hlt : i < its.length
  · obtain ⟨d, hd⟩ : ∃ d, its[i]? = some d := ⟨its[i], List.getElem?_eq_getElem hlt⟩
    obtain ⟨go, yl⟩ := y1 d hd
    rw [List.drop_eq_getElem_cons hlt] at h2
    have ed : its[i] = d := by rw [List.getElem?_eq_getElem hlt] at hd; exact Option.some.inj hd
    rw [ed] at h2
    refine .inr ⟨go, fun σ' H' => ∃ Φ τ, Rl F Φ H' σ' τ (base ++ tm) ∧ pin τ ∧ Wp F W tm (loopM pin g body (its.drop (i + 1)) τ) (FlK F D tm), fun σ' H' ⟨Φ3, τ3, r3, pn3, h3⟩ => ⟨its.length - (i + 1), by omega, Φ3, τ3, r3, pn3, rfl, h3⟩, fun x H3 hy => ?_⟩
    obtain ⟨Φ3, r3⟩ := yl x H3 hy
    have hh := Wp.bnd (show Wp F W tm (M.bnd (g (.val d)) (fun _ => M.bnd body fun f => match f with
      | .nx => M.bnd (chk pin) fun _ => loopM pin g body (its.drop (i + 1))
      | .ct => M.bnd (chk pin) fun _ => loopM pin g body (its.drop (i + 1))
      | .bk => M.ret .nx
      | .rt s => M.ret (.rt s)) τ2) _ from h2)
    refine ⟨Φ3, τ2, base ++ tm, .val d, trivial, quiet_app qb qt, r3, (hh.air (Subp.app' (Subp.of (List.Sublist.refl _)))).mono fun _ τ4 h4 σ4 H4 Φ4 r4 _ => ?_⟩
    refine ts_go (quiet_app qb qt) r4 (Wp.bnd h4) (fun τ5 σ5 H5 Φ5 p5 r5 => ?_) (fun τ5 σ5 H5 Φ5 p5 r5 => p5 σ5 H5 Φ5 r5.unbase) (fun τ5 σ5 H5 Φ5 p5 r5 => ?_) fun s τ5 v σ5 H5 Φ5 p5 r5 => p5 v σ5 H5 Φ5 ?_
    · obtain ⟨q, k⟩ := Wp.chk (Wp.bnd p5)
      exact ⟨Φ5, τ5, r5, q, k⟩
    · obtain ⟨q, k⟩ := Wp.chk (Wp.bnd p5)
      exact ⟨Φ5, τ5, r5, q, k⟩
    · exact r5.air (.of (List.Sublist.cons_cons _ (List.sublist_append_right _ _)))
  · have hle : its.length ≤ i := by omega
    rw [List.drop_eq_nil_of_le hle] at h2
    exact .inl ⟨y2 hle, h2 σ2 H2 Φ2 r2.unbase⟩

/-! #### what is walked -/
def noPin : Pin := fun _ => True
/-- a list, a tuple: what is ours is ours no more; what was lent must stay as it is -/
def items : D → Option (List D)
  | .lst xs => some xs
  | .tup xs => some xs
  | .scr xs => some xs
  | _ => none
def iSeq (ma : M S) : M (List D × Pin) := M.bnd ma fun s => fun τ => match s with
  | .ali k => (match τ[k]? with
    | some (.lent j (.lst xs)) => .ok ((xs, fun τ => τ[k]? = some (.lent j (.lst xs))), τ)
    | _ => M.bnd (take (.ali k)) (fun d => M.bnd (M.of (items d)) fun xs => M.ret (xs, noPin)) τ)
  | s => M.bnd (take s) (fun d => M.bnd (M.of (items d)) fun xs => M.ret (xs, noPin)) τ
theorem FzL.at {G : Gx} {vs : List V} {ds : List D} {i : Nat} {d : D} (q : FzL G Φ vs ds) (h : ds[i]? = some d) : ∃ v, vs[i]? = some v ∧ Fz G Φ v d := FzL.get q h
theorem yields_lst (hK : X.K = F.G.K) {a : Addr} {xs : List D} : Yields F (Itl X.K a) xs [(some (.ref a), .val (.lst xs))] noPin := by
  intro i Φ H σ τ tm r _
  obtain ⟨x, e, q⟩ := r.one (some (.ref a), .val (.lst xs)) (List.mem_append_right _ List.mem_cons_self)
  cases e
  cases q with
  | lst h t =>
    have hs := r.le _ _ h
    refine ⟨fun d hd => ?_, fun hl => ⟨_, .inl (.inl hs), by rw [t.length]; exact hl⟩⟩
    obtain ⟨v, hv, fv⟩ := FzL.at t hd
    refine ⟨⟨_, v, .inl (.inl hs), hv⟩, fun x H2 ⟨e, y⟩ => ?_⟩
    subst e
    have := y _ (.inl (.inl hs))
    rw [hv] at this
    cases this
    exact ⟨Φ, r.val fv⟩
theorem yields_scr (hK : X.K = F.G.K) {a : Addr} {xs : List D} : Yields F (Itl X.K a) xs [(some (.ref a), .val (.scr xs))] noPin := by
  intro i Φ H σ τ tm r _
  obtain ⟨x, e, q⟩ := r.one (some (.ref a), .val (.scr xs)) (List.mem_append_right _ List.mem_cons_self)
  cases e
  cases q with
  | scr h t =>
    have hs := SqL.le h r.le
    rw [← hK] at hs
    refine ⟨fun d hd => ?_, fun hl => ⟨_, hs, by rw [t.length]; exact hl⟩⟩
    obtain ⟨v, hv, fv⟩ := FzL.at t hd
    refine ⟨⟨_, v, hs, hv⟩, fun x H2 ⟨e, y⟩ => ?_⟩
    subst e
    have := y _ hs
    rw [hv] at this
    cases this
    exact ⟨Φ, r.val fv⟩
theorem yields_tup (hK : X.K = F.G.K) {a : Addr} {xs : List D} : Yields F (Itt X.K a) xs [(some (.ref a), .val (.tup xs))] noPin := by
  intro i Φ H σ τ tm r _
  obtain ⟨x, e, q⟩ := r.one (some (.ref a), .val (.tup xs)) (List.mem_append_right _ List.mem_cons_self)
  cases e
  cases q with
  | tup h t =>
    have hs := SqT.le h r.le
    rw [← hK] at hs
    refine ⟨fun d hd => ?_, fun hl => ⟨_, hs, by rw [t.length]; exact hl⟩⟩
    obtain ⟨v, hv, fv⟩ := FzL.at t hd
    refine ⟨⟨_, v, hs, hv⟩, fun x H2 ⟨e, y⟩ => ?_⟩
    subst e
    have := y _ hs
    rw [hv] at this
    cases this
    exact ⟨Φ, r.val fv⟩
theorem yields_lent (hK : X.K = F.G.K) {a : Addr} {xs : List D} {k j : Nat} (pj : F.P j = some a) : Yields F (Itl X.K a) xs [] (fun τ => τ[k]? = some (.lent j (.lst xs))) := by
  intro i Φ H σ τ tm r pn
  obtain ⟨v, e1, em, b, e2, ⟨vs, hs, t⟩, _, pb⟩ := r.at pn
  rw [pj] at pb
  cases pb
  refine ⟨fun d hd => ?_, fun hl => ⟨_, .inl (.inl hs), by rw [t.length]; exact hl⟩⟩
  obtain ⟨v, hv, fv⟩ := FzL.at t hd
  refine ⟨⟨_, v, .inl (.inl hs), hv⟩, fun x H2 ⟨e, y⟩ => ?_⟩
  subst e
  have := y _ (.inl (.inl hs))
  rw [hv] at this
  cases this
  exact ⟨Φ, r.val fv⟩
theorem quiet_one {v : Option V} {d : D} : Quiet [(v, .val d)] := fun p hp => by
  cases hp with
  | head => trivial
  | tail _ h => cases h
theorem quiet_nil : Quiet [] := fun _ h => nomatch h
theorem im_seq {ma : M S} (ft : Fits X F W) (ha : EM X F W iter ma) : IM X F W tg iter (iSeq ma) := by
  have two : PI X tg iter (fun σ H R => TEm F W ma σ H fun x H1 => ∃ a, x = .ref a ∧ (((∃ xs, SqL X.K H1 a xs) ∧ R (Itl X.K a) H1) ∨ ((∃ xs, SqT X.K H1 a xs) ∧ R (Itt X.K a) H1))) := by
    refine ⟨fun pins s σ H R I h => ?_⟩
    refine thn (ha.run pins s σ H _ I h) fun v s1 ⟨x, H1, I1, r1, q1⟩ => ?_
    obtain ⟨a, e, q1 | q1⟩ := q1
    · have pin : PE (X) iter (fun σ2 H2 Q => TEm F W ma σ2 H2 Q) := ha
      obtain ⟨⟨xs, hq⟩, q⟩ := q1
      subst e
      cases r1
      obtain ⟨its, rv, p, hz⟩ := I1.list hq
      refine wpAny_pyIter_list p.isList ?_
      refine ⟨s1.heap.objs.size, [s1.heap.objs.size], _, _, H1, rfl, I1.kept (t' := s1.toks) fun b o e => Heap.get?_push_of_some _ e, turn_list a _, ⟨_, Heap.get?_push_size _ rfl, rfl, rfl⟩, fun b hb => ?_, q⟩
      have e : b = s1.heap.objs.size := by simpa using hb
      subst e
      exact I1.fpOk (Nat.le_refl _) (I1.hok.fresh (Nat.le_refl _))
    · obtain ⟨⟨xs, hq⟩, q⟩ := q1
      subst e
      cases r1
      obtain ⟨its, rv, p, hz⟩ := I1.tuple hq
      refine wpAny_pyIter_tuple (show s1.heap.IsTuple a its.toArray from p) ?_
      refine ⟨s1.heap.objs.size, [s1.heap.objs.size], _, _, H1, rfl, I1.kept (t' := s1.toks) fun b o e => Heap.get?_push_of_some _ e, turn_tuple a _, ⟨_, Heap.get?_push_size _ rfl, rfl, rfl⟩, fun b hb => ?_, q⟩
      have e : b = s1.heap.objs.size := by simpa using hb
      subst e
      exact I1.fpOk (Nat.le_refl _) (I1.hok.fresh (Nat.le_refl _))
  refine PI.imp two fun σ H Rr ⟨Φ, τ, tm, r, h⟩ => ?_
  refine te_go r (Wp.bnd h) fun s τ1 v H1 Φ1 p1 r1 => ?_
  have gen : Wp F W tm (M.bnd (take s) (fun d => M.bnd (M.of (items d)) fun xs => M.ret (xs, noPin)) τ1) (fun p τ' => ∀ J H' Φ' base, Quiet base → Rl F Φ' H' σ τ' (base ++ tm) → p.2 τ' → Yields F J p.1 base p.2 → Rr J H') →
      ∃ a, v = .ref a ∧ (((∃ xs, SqL X.K H1 a xs) ∧ Rr (Itl X.K a) H1) ∨ ((∃ xs, SqT X.K H1 a xs) ∧ Rr (Itt X.K a) H1)) := fun h => by
    obtain ⟨d, τ2, e, p2⟩ := take_cases (Wp.bnd h)
    obtain ⟨Φ2, r2⟩ := Rl.taken r1 e
    obtain ⟨xs, e2, k⟩ := Wp.of (Wp.bnd p2)
    obtain ⟨x, e3, q⟩ := r2.hd
    cases e3
    cases d with
    | lst ys =>
      cases e2
      cases q with
      | lst hh t => exact ⟨_, rfl, .inl ⟨⟨_, .inl (.inl (r2.le _ _ hh))⟩, k _ H1 Φ2 _ quiet_one r2 trivial (yields_lst ft.K)⟩⟩
    | scr ys =>
      cases e2
      cases q with
      | scr hh t => exact ⟨_, rfl, .inl ⟨⟨_, by rw [ft.K]; exact SqL.le hh r2.le⟩, k _ H1 Φ2 _ quiet_one r2 trivial (yields_scr ft.K)⟩⟩
    | tup ys =>
      cases e2
      cases q with
      | tup hh t => exact ⟨_, rfl, .inr ⟨⟨_, by rw [ft.K]; exact SqT.le hh r2.le⟩, k _ H1 Φ2 _ quiet_one r2 trivial (yields_tup ft.K)⟩⟩
    | _ => cases e2
  cases s with
  | ali k =>
    simp only at p1
    split at p1
    · rename_i j xs e
      obtain ⟨x, s', e1, e2, e3, _⟩ := r1.hd
      cases e1
      obtain ⟨w, e4, em, a, e5, ⟨vs, hs, t⟩, _, pj⟩ := r1.at e
      rw [e2] at e4
      cases e4
      cases e5
      exact ⟨a, rfl, .inl ⟨⟨vs, .inl (.inl hs)⟩, p1 _ H1 Φ1 [] quiet_nil r1.tl e (yields_lent ft.K pj)⟩⟩
    · exact gen p1
  | raw => exact gen p1
  | non => exact gen p1
  | val d => exact gen p1
  | own o => exact gen p1
  | lent j o => exact gen p1
/-- range(n), range(a, b) -/
def inR (i : Int) : Bool := decide (-(2 ^ 62) ≤ i ∧ i < 2 ^ 62)
def rangeD (lo hi : Int) : List D := (List.range (hi - lo).toNat).map fun n => .int (lo + (n : Nat))
def ranged1 : List D → Option (List D)
  | [.int j] => if inR j = true then some (rangeD 0 j) else none
  | _ => none
def ranged2 : List D → Option (List D)
  | [.int i, .int j] => if inR i = true ∧ inR j = true then some (rangeD i j) else none
  | _ => none
def iRng (f : List D → Option (List D)) (ms : M (List S)) : M (List D × Pin) := M.bnd ms fun ss => M.bnd (peekAll ss) fun ds => M.bnd (M.of (f ds)) fun its => M.ret (its, noPin)
theorem yields_rng {lo hi : Int} {n : Nat} (hn : n = (hi - lo).toNat) : Yields F (Itr lo n) (rangeD lo hi) [] noPin := by
  intro i Φ H σ τ tm r _
  subst hn
  refine ⟨fun d hd => ?_, fun hl => ?_⟩
  · unfold rangeD at hd
    rw [List.getElem?_map] at hd
    obtain ⟨k, e1, e2⟩ := Option.map_eq_some_iff.mp hd
    obtain ⟨h1, h2⟩ := List.getElem?_eq_some_iff.mp e1
    rw [List.length_range] at h1
    rw [List.getElem_range] at h2
    subst h2
    refine ⟨h1, fun x H2 ⟨e3, e4⟩ => ?_⟩
    subst e3 e4 e2
    exact ⟨Φ, r.val (.int _)⟩
  · unfold rangeD at hl
    rw [List.length_map, List.length_range] at hl
    exact hl
theorem im_range1 {a : Expr} {ms : M (List S)} {p : Pos} (hm : X.mg "range" = none) (ha : LM X F W [a] ms) (hg : Gl X "range" := by rfl) (hs : starEach [a] X.env = [(false, eval a X.env)] := by rfl) : IM X F W tg (.Call (.Name "range" p) [a] [] pos) (iRng ranged1 ms) :=
  PI.imp (pi_range1 hg hm ha hs) fun σ H Rr ⟨Φ, τ, tm, r, h⟩ => tl_go r (Wp.bnd h) fun ss τ1 vs H1 Φ1 p1 l r1 => by
    obtain ⟨ds, q, p2⟩ := Rl.peekAll l r1 (Wp.bnd p1)
    obtain ⟨its, e, k⟩ := Wp.of (Wp.bnd p2)
    unfold ranged1 at e
    split at e
    · split at e
      · rename_i j hz
        cases e
        obtain ⟨v, rfl, hv⟩ := rd1 q
        have hz' := of_decide_eq_true hz
        exact ⟨j, by rw [hv.int], hz'.1, hz'.2, k _ H1 Φ1 [] quiet_nil r1.unbase trivial (yields_rng (by simp))⟩
      · cases e
    · cases e
theorem im_range2 {a b : Expr} {ms : M (List S)} {p : Pos} (hm : X.mg "range" = none) (ha : LM X F W [a, b] ms) (hg : Gl X "range" := by rfl) (hs : starEach [a, b] X.env = [(false, eval a X.env), (false, eval b X.env)] := by rfl) (hs2 : starEach [b] X.env = [(false, eval b X.env)] := by rfl) : IM X F W tg (.Call (.Name "range" p) [a, b] [] pos) (iRng ranged2 ms) :=
  PI.imp (pi_range2 hg hm ha hs hs2) fun σ H Rr ⟨Φ, τ, tm, r, h⟩ => tl_go r (Wp.bnd h) fun ss τ1 vs H1 Φ1 p1 l r1 => by
    obtain ⟨ds, q, p2⟩ := Rl.peekAll l r1 (Wp.bnd p1)
    obtain ⟨its, e, k⟩ := Wp.of (Wp.bnd p2)
    unfold ranged2 at e
    split at e
    · split at e
      · rename_i i j hz
        cases e
        obtain ⟨v, w, rfl, hv, hw⟩ := rd2 q
        have h1 := of_decide_eq_true hz.1
        have h2 := of_decide_eq_true hz.2
        exact ⟨i, j, by rw [hv.int, hw.int], ⟨h1.1, h1.2, h2.1, h2.2⟩, k _ H1 Φ1 [] quiet_nil r1.unbase trivial (yields_rng rfl)⟩
      · cases e
    · cases e
/-! #### while -/
/-- n turns at most -/
def whileN (c : M Bool) (body : M Fl) : Nat → M (Option Fl)
  | 0 => M.ret none
  | n + 1 => M.bnd c fun b => if b = true then M.bnd body fun f => match f with
    | .nx => whileN c body n
    | .ct => whileN c body n
    | .bk => M.ret (some .nx)
    | .rt s => M.ret (some (.rt s))
    else M.ret (some .nx)
/-- n turns, no more, are the whole of it -/
def Ends' (c : M Bool) (body : M Fl) (τ : List S) (n : Nat) : Prop := ∀ τ', whileN c body n τ ≠ .ok (none, τ')
open Classical in
noncomputable def sWhile (c : M Bool) (body : M Fl) : M Fl := fun τ => if h : ∃ n, Ends' c body τ n then (match whileN c body (choose h) τ with
  | .ok (some f, τ') => .ok (f, τ')
  | .ok (none, _) => .stuck
  | .exc c fs τ' => .exc c fs τ'
  | .stuck => .stuck) else .stuck
theorem whileN_more {c : M Bool} {body : M Fl} : ∀ {n k : Nat} {τ : List S}, Ends' c body τ n → whileN c body (n + k) τ = whileN c body n τ
  | 0, k, τ, h => absurd rfl (h τ)
  | n + 1, k, τ, h => by
    rw [Nat.add_right_comm]
    unfold whileN M.bnd
    cases e : c τ with
    | stuck => rfl
    | exc _ _ _ => rfl
    | ok p =>
      obtain ⟨b, τ1⟩ := p
      cases b with
      | false => rfl
      | true =>
        simp only [if_true]
        cases e2 : body τ1 with
        | stuck => rfl
        | exc _ _ _ => rfl
        | ok p =>
          obtain ⟨f, τ2⟩ := p
          have go : (f = .nx ∨ f = .ct) → Ends' c body τ2 n := fun hf τ' z => by
            refine h τ' ?_
            unfold whileN M.bnd
            rw [e]
            simp only [if_true]
            rw [e2]
            rcases hf with rfl | rfl <;> exact z
          cases f with
          | nx => exact whileN_more (go (.inl rfl))
          | ct => exact whileN_more (go (.inr rfl))
          | bk => rfl
          | rt s => rfl
theorem Ends'.more {c : M Bool} {body : M Fl} {n k : Nat} {τ : List S} (h : Ends' c body τ n) : Ends' c body τ (n + k) := fun τ' => by
  rw [whileN_more h]
  exact h τ'
theorem while_eq {c : M Bool} {body : M Fl} {n : Nat} {τ : List S} (h : Ends' c body τ n) : sWhile c body τ = match whileN c body n τ with
  | .ok (some f, τ') => .ok (f, τ')
  | .ok (none, _) => .stuck
  | .exc c fs τ' => .exc c fs τ'
  | .stuck => .stuck := by
  have hx : ∃ n, Ends' c body τ n := ⟨n, h⟩
  unfold sWhile
  rw [dif_pos hx]
  have e : whileN c body (Classical.choose hx) τ = whileN c body n τ := by
    have h1 := Classical.choose_spec hx
    rcases Nat.le_total (Classical.choose hx) n with q | q
    · obtain ⟨k, rfl⟩ := Nat.exists_eq_add_of_le q
      exact (whileN_more h1).symm
    · have q2 : Classical.choose hx = n + (Classical.choose hx - n) := by omega
      rw [q2]
      exact whileN_more h
  rw [e]
theorem sm_while {c : Expr} {mc : M Bool} {b : List Stmt} (ft : Fits X F W) (hc : BM X F W c mc) (hb : BlM X F W b body) : SM X F W (.While c b [] pos) (sWhile mc body) := by
  refine PS.imp (ps_while ft.own hc hb) fun D σ H ⟨Φ, τ, tm, qt, r, h⟩ => ?_
  -- the turns that are left
  by_cases hx : ∃ n, Ends' mc body τ n
  · obtain ⟨n, hn⟩ := hx
    rw [while_eq hn] at h
    have h' : Wp F W tm (whileN mc body n τ) (fun o τ' => match o with
      | some f => FlK F D tm f τ'
      | none => False) := by
      cases e : whileN mc body n τ with
      | stuck => rw [e] at h; exact h
      | exc _ _ _ => rw [e] at h; exact h
      | ok p =>
        obtain ⟨o, τ'⟩ := p
        rw [e] at h
        cases o with
        | none => exact h
        | some f => exact h
    refine ⟨fun m σ H => ∃ Φ τ, Rl F Φ H σ τ tm ∧ Wp F W tm (whileN mc body m τ) (fun o τ' => match o with
      | some f => FlK F D tm f τ'
      | none => False), ⟨n, Φ, τ, r, h'⟩, ?_⟩
    rintro m σ1 H1 ⟨Φ1, τ1, r1, h1⟩
    cases m with
    | zero => exact h1.elim
    | succ m =>
      refine tb_go r1 (Wp.bnd (show Wp F W tm (M.bnd mc (fun b => if b = true then M.bnd body fun f => match f with
        | .nx => whileN mc body m
        | .ct => whileN mc body m
        | .bk => M.ret (some .nx)
        | .rt s => M.ret (some (.rt s))
        else M.ret (some .nx)) τ1) _ from h1)) fun bb τ2 H2 Φ2 p2 r2 => ?_
      cases bb with
      | false =>
        rw [if_neg Bool.false_ne_true] at p2 ⊢
        exact p2 σ1 H2 Φ2 r2
      | true =>
        rw [if_pos rfl] at p2 ⊢
        refine ⟨fun σ' H' => ∃ Φ τ, Rl F Φ H' σ' τ tm ∧ Wp F W tm (whileN mc body m τ) (fun o τ' => match o with
          | some f => FlK F D tm f τ'
          | none => False), fun σ' H' q => ⟨m, Nat.lt_succ_self m, q⟩, ?_⟩
        exact ts_go qt r2 (Wp.bnd p2) (fun τ5 σ5 H5 Φ5 p5 r5 => ⟨Φ5, τ5, r5, p5⟩) (fun τ5 σ5 H5 Φ5 p5 r5 => p5 σ5 H5 Φ5 r5) (fun τ5 σ5 H5 Φ5 p5 r5 => ⟨Φ5, τ5, r5, p5⟩) fun s τ5 v σ5 H5 Φ5 p5 r5 => p5 v σ5 H5 Φ5 r5
  · unfold sWhile at h
    rw [dif_neg hx] at h
    exact h.elim
end
end Mi

/-! ### M9: comprehensions, stores -/
namespace Mi
open PySem PySem.Spec PyProof.Rows L2

def S.isReal : S → Bool
  | .non => false
  | .raw => false
  | .ali _ => false
  | _ => true
theorem S.real_iff {s : S} : s.isReal = true ↔ s.real := by cases s <;> simp [S.isReal, S.real]
def S.isAli : S → Bool
  | .ali _ => true
  | _ => false
def plainS : S → Bool
  | .non => true
  | .val _ => true
  | _ => false
def wipeT (own : List Nat) (τ : List S) : List S := own.foldl (fun t i => t.set i .non) τ
theorem wipeT_length : ∀ (own : List Nat) (τ : List S), (wipeT own τ).length = τ.length
  | [], _ => rfl
  | i :: own, τ => by
    show (wipeT own (τ.set i .non)).length = _
    rw [wipeT_length, List.length_set]
theorem wipeT_get : ∀ (own : List Nat) (τ : List S) (j : Nat), (wipeT own τ)[j]? = if j ∈ own then τ[j]?.map (fun _ => .non) else τ[j]?
  | [], τ, j => by simp [wipeT]
  | i :: own, τ, j => by
    show (wipeT own (τ.set i .non))[j]? = _
    rw [wipeT_get own]
    by_cases hj : i = j
    · subst hj
      by_cases hi : i < τ.length
      · rw [List.getElem?_set_self hi, if_pos List.mem_cons_self, List.getElem?_eq_getElem hi]
        split <;> rfl
      · rw [List.getElem?_eq_none (by rw [List.length_set]; omega), List.getElem?_eq_none (by omega)]
        split <;> (first | rfl | (split <;> rfl))
    · rw [List.getElem?_set_ne hj]
      by_cases hm : j ∈ own
      · rw [if_pos hm, if_pos (List.mem_cons_of_mem _ hm)]
      · rw [if_neg hm, if_neg (fun z => (List.mem_cons.mp z).elim (fun e => hj e.symm) hm)]
theorem wipe_get (σ : L2.St) : ∀ (own : List Nat) (j : Nat), (wipe σ own)[j]? = if j ∈ own then σ[j]?.map (fun _ => none) else σ[j]?
  | [], j => by simp [wipe]
  | i :: own, j => by
    show ((wipe σ own).set i none)[j]? = _
    by_cases hj : i = j
    · subst hj
      rw [if_pos List.mem_cons_self]
      by_cases hi : i < σ.length
      · rw [List.getElem?_set_self (by rw [wipe_length]; exact hi), List.getElem?_eq_getElem hi]
        rfl
      · rw [List.getElem?_eq_none (by rw [List.length_set, wipe_length]; omega), List.getElem?_eq_none (by omega)]
        rfl
    · rw [List.getElem?_set_ne hj, wipe_get σ own]
      by_cases hm : j ∈ own
      · rw [if_pos hm, if_pos (List.mem_cons_of_mem _ hm)]
      · rw [if_neg hm, if_neg (fun z => (List.mem_cons.mp z).elim (fun e => hj e.symm) hm)]
theorem wipe_but {is own : List Nat} {σ σ' : L2.St} (h : But is (wipe σ own) σ') (s : ∀ i ∈ is, i ∈ own) : wipe σ' own = wipe σ own := by
  have l : σ'.length = σ.length := by rw [h.len, wipe_length]
  apply List.ext_getElem?
  intro j
  rw [wipe_get, wipe_get]
  by_cases hm : j ∈ own
  · rw [if_pos hm, if_pos hm]
    by_cases hj : j < σ.length
    · rw [List.getElem?_eq_getElem hj, List.getElem?_eq_getElem (by omega)]; rfl
    · rw [List.getElem?_eq_none (by omega), List.getElem?_eq_none (by omega)]
  · rw [if_neg hm, if_neg hm, h.at_ j (fun z => hm (s j z)), wipe_get, if_neg hm]
/-- behind the comprehension: its own names are what they were -/
def restT (own : List Nat) (τ τ1 : List S) : List S := (List.range τ.length).map fun i => if own.contains i = true then τ.getD i .non else τ1.getD i .non
def realOk : List S → List S → Bool
  | [], [] => true
  | s :: τ, t :: τ1 => (!s.isReal || t.isReal) && realOk τ τ1
  | _, _ => false
def wip (own : List Nat) : M Unit := fun τ => .ok ((), wipeT own τ)
noncomputable def compM (own : List Nat) (pin : Pin) (g : MG) (test : M Bool) (elt : M S) : List D → List D → M (List D)
  | [], acc => M.ret acc
  | d :: ds, acc => M.bnd (g (.val d)) fun _ => M.bnd test fun b => if b = true then
      M.bnd elt fun s => M.bnd (take s) fun y => M.bnd (M.of (fitL (acc.length + 1))) fun _ => M.bnd (wip own) fun _ => M.bnd (chk pin) fun _ => compM own pin g test elt ds (acc ++ [y])
    else M.bnd (wip own) fun _ => M.bnd (chk pin) fun _ => compM own pin g test elt ds acc
noncomputable def eComp (own : List Nat) (mi : M (List D × Pin)) (g : MG) (test : M Bool) (elt : M S) : M S := M.bnd mi fun p => fun τ =>
  if own.all (fun i => plainS (τ.getD i .non)) = true then (match (M.bnd (chk p.2) fun _ => compM own p.2 g test elt p.1 []) (wipeT own τ) with
  | .ok (ds, τ1) => if realOk (wipeT own τ) τ1 = true then .ok (.own (.lst ds), restT own τ τ1) else .stuck
  | _ => .stuck) else .stuck
def bYes : M Bool := M.ret true
abbrev W0 : WX := fun _ _ _ _ => False

section
variable {X : Cx} {F : Fm} {W : WX} {Φ Φ' H H' : Hp} {σ : L2.St} {τ τ1 τ' : List S} {tm : Env1}
theorem realOk_len : ∀ {τ τ1 : List S}, realOk τ τ1 = true → τ.length = τ1.length
  | [], [], _ => rfl
  | _ :: _, _ :: _, h => by
    unfold realOk at h
    rw [Bool.and_eq_true] at h
    rw [List.length_cons, List.length_cons, realOk_len h.2]
  | [], _ :: _, h => by cases h
  | _ :: _, [], h => by cases h
theorem realOk_at : ∀ {τ τ1 : List S} {i : Nat} {s : S}, realOk τ τ1 = true → τ[i]? = some s → s.real → ∃ t, τ1[i]? = some t ∧ t.real
  | [], [], _, _, _, e, _ => by simp at e
  | s :: τ, t :: τ1, 0, s', h, e, q => by
    unfold realOk at h
    rw [Bool.and_eq_true] at h
    simp only [List.getElem?_cons_zero, Option.some.injEq] at e
    subst e
    have hs := S.real_iff.mpr q
    rw [hs] at h
    exact ⟨t, rfl, S.real_iff.mp (by simpa using h.1)⟩
  | s :: τ, t :: τ1, i + 1, s', h, e, q => by
    unfold realOk at h
    rw [Bool.and_eq_true] at h
    simp only [List.getElem?_cons_succ] at e
    obtain ⟨t', h1, h2⟩ := realOk_at h.2 e q
    exact ⟨t', by simpa using h1, h2⟩
  | [], _ :: _, _, _, h, _, _ => by cases h
  | _ :: _, [], _, _, h, _, _ => by cases h
theorem pw_filter {q : Option V × S → Bool} : ∀ {l : Env1}, (l.filter q).Pairwise Apart → (∀ p ∈ l, q p = false → holds p = none) → l.Pairwise Apart
  | [], _, _ => List.Pairwise.nil
  | p :: l, h, k => by
    have k' : ∀ x ∈ l, q x = false → holds x = none := fun x hx => k x (List.mem_cons_of_mem _ hx)
    by_cases hq : q p = true
    · rw [List.filter_cons_of_pos hq] at h
      obtain ⟨h1, h2⟩ := List.pairwise_cons.mp h
      refine List.pairwise_cons.mpr ⟨fun x hx => ?_, pw_filter h2 k'⟩
      by_cases hx' : q x = true
      · exact h1 x (List.mem_filter.mpr ⟨hx, hx'⟩)
      · exact (apart_none (k' x hx (by simpa using hx'))).symm
    · have hq' : q p = false := by simpa using hq
      rw [List.filter_cons_of_neg (by simp [hq'])] at h
      exact List.pairwise_cons.mpr ⟨fun x hx => apart_none (k p List.mem_cons_self hq'), pw_filter h k'⟩
def isQ (p : Option V × S) : Bool := !p.2.isAli
theorem isQ_quiet : Quiet (tm.filter isQ) := fun p hp => by
  have := (List.mem_filter.mp hp).2
  obtain ⟨v, s⟩ := p
  cases s <;> first | trivial | cases this
theorem holds_notQ {p : Option V × S} (h : isQ p = false) : holds p = none := by
  obtain ⟨v, s⟩ := p
  cases s <;> first | (cases h; done) | exact holds_ali
def valsOf (L : Env1) : Env1 := L.filter fun p => match p.2 with
  | .val _ => true
  | _ => false
theorem valsOf_mem {L : Env1} {v : Option V} {d : D} (h : (v, S.val d) ∈ L) : (v, S.val d) ∈ valsOf L := List.mem_filter.mpr ⟨h, rfl⟩
theorem valsOf_val {L : Env1} {p : Option V × S} (h : p ∈ valsOf L) : ∃ v d, p = (v, S.val d) ∧ p ∈ L := by
  obtain ⟨h1, h2⟩ := List.mem_filter.mp h
  obtain ⟨v, s⟩ := p
  cases s with
  | val d => exact ⟨v, d, rfl, h1⟩
  | _ => cases h2
theorem valsOf_quiet {L : Env1} : Quiet (valsOf L) := fun p hp => by
  obtain ⟨v, d, rfl, _⟩ := valsOf_val hp
  trivial
/-- plain values of the slots hang in the air too -/
theorem Rl.saved (r : Rl F Φ H σ τ tm) : Rl F Φ H σ τ (valsOf (σ.zip τ) ++ tm) := by
  have nv : ∀ p ∈ valsOf (σ.zip τ), holds p = none := fun p hp => by
    obtain ⟨v, d, rfl, _⟩ := valsOf_val hp
    exact holds_val
  refine ⟨r.len, r.fl, r.le0, r.le, r.pres, r.dom, r.new, fun p hp => ?_, ?_, r.tabs⟩
  · rcases List.mem_append.mp hp with h | h
    · exact r.one p (List.mem_append_left _ h)
    · rcases List.mem_append.mp h with h | h
      · obtain ⟨v, d, rfl, hm⟩ := valsOf_val h
        exact r.one _ (List.mem_append_left _ hm)
      · exact r.one p (List.mem_append_right _ h)
  · obtain ⟨h1, h2, h3⟩ := List.pairwise_append.mp r.nd
    refine List.pairwise_append.mpr ⟨h1, List.pairwise_append.mpr ⟨?_, h2, fun a ha b hb => apart_none (nv a ha)⟩, fun a ha b hb => ?_⟩
    · refine List.Pairwise.imp_of_mem (fun {a b} ha _ _ => apart_none (nv a ha)) (h1.sublist List.filter_sublist)
    · rcases List.mem_append.mp hb with h | h
      · exact (apart_none (nv b h)).symm
      · exact h3 a ha b h
/-- slots forgotten -/
theorem Rl.wiped (r : Rl F Φ H σ τ tm) (qt : Quiet tm) (own : List Nat) : Rl F Φ H (wipe σ own) (wipeT own τ) tm := by
  have len : (wipe σ own).length = (wipeT own τ).length := by rw [wipe_length, wipeT_length]; exact r.len
  have ent : ∀ {j : Nat} {p}, ((wipe σ own).zip (wipeT own τ))[j]? = some p → (p.2 = .non) ∨ (σ.zip τ)[j]? = some p := fun {j p} h => by
    obtain ⟨v, s⟩ := p
    rw [List.getElem?_zip_eq_some] at h
    obtain ⟨h1, h2⟩ := h
    rw [wipe_get] at h1
    rw [wipeT_get] at h2
    by_cases hm : j ∈ own
    · rw [if_pos hm] at h2
      obtain ⟨_, _, e⟩ := Option.map_eq_some_iff.mp h2
      exact .inl e.symm
    · rw [if_neg hm] at h1 h2
      exact .inr (List.getElem?_zip_eq_some.mpr ⟨h1, h2⟩)
  have lz : ((wipe σ own).zip (wipeT own τ)).length = (σ.zip τ).length := by rw [List.length_zip, List.length_zip, wipe_length, wipeT_length]
  refine ⟨len, fun s hs => ?_, r.le0, r.le, r.pres, r.dom, r.new, fun p hp => ?_, ?_, r.tabs⟩
  · obtain ⟨j, hj⟩ := List.getElem?_of_mem hs
    rw [wipeT_get] at hj
    by_cases hm : j ∈ own
    · rw [if_pos hm] at hj
      obtain ⟨_, _, e⟩ := Option.map_eq_some_iff.mp hj
      rw [← e]; trivial
    · rw [if_neg hm] at hj
      exact r.fl s (List.mem_of_getElem? hj)
  · rcases List.mem_append.mp hp with h | h
    · obtain ⟨j, hj⟩ := List.getElem?_of_mem h
      rcases ent hj with e | e
      · obtain ⟨v, s⟩ := p
        simp only at e
        subst e
        trivial
      · have hm := List.mem_of_getElem? e
        exact (r.one p (List.mem_append_left _ hm)).slots (r.fl _ (List.of_mem_zip hm).2)
    · exact (r.one p (List.mem_append_right _ h)).slots (qt p h)
  · obtain ⟨h1, h2, h3⟩ := List.pairwise_append.mp r.nd
    refine List.pairwise_append.mpr ⟨?_, h2, fun a ha b hb => ?_⟩
    · rw [List.pairwise_iff_getElem] at h1 ⊢
      intro i j hi hj lt
      rcases ent (List.getElem?_eq_getElem hi) with e | e
      · exact apart_none (holds_non' e)
      · rcases ent (List.getElem?_eq_getElem hj) with e2 | e2
        · exact (apart_none (holds_non' e2)).symm
        · obtain ⟨x1, x2⟩ := List.getElem?_eq_some_iff.mp e
          obtain ⟨y1, y2⟩ := List.getElem?_eq_some_iff.mp e2
          have := h1 i j x1 y1 lt
          rw [x2, y2] at this
          exact this
    · obtain ⟨j, hj⟩ := List.getElem?_of_mem ha
      rcases ent hj with e | e
      · exact apart_none (holds_non' e)
      · exact h3 a (List.mem_of_getElem? e) b hb
theorem restT_length (own : List Nat) (τ τ1 : List S) : (restT own τ τ1).length = τ.length := by unfold restT; simp
theorem restT_get {own : List Nat} {j : Nat} (h : j < τ.length) : (restT own τ τ1)[j]? = some (if own.contains j = true then τ.getD j .non else τ1.getD j .non) := by
  unfold restT
  rw [List.getElem?_map, List.getElem?_range h]
  rfl
/-- back in the def: the comprehension's names are what they were -/
theorem Rl.rest {own : List Nat} {Φ0 H0 : Hp} {x : Env1} (r0 : Rl F Φ0 H0 σ τ tm) (r : Rl F Φ H (wipe σ own) τ1 (x ++ (valsOf (σ.zip τ) ++ tm.filter isQ))) (qx : Quiet x) (pl : own.all (fun i => plainS (τ.getD i .non)) = true) (ok : realOk (wipeT own τ) τ1 = true) : Rl F Φ H σ (restT own τ τ1) (x ++ tm) := by
  have l1 : τ1.length = τ.length := by rw [← realOk_len ok, wipeT_length]
  have plain : ∀ i ∈ own, ∀ s, τ[i]? = some s → plainS s = true := fun i hi s e => by
    have := List.all_eq_true.mp pl i hi
    rwa [List.getD_eq_getElem?_getD, e, Option.getD_some] at this
  -- the entries
  have ent : ∀ {j : Nat} {v : Option V} {s : S}, (σ.zip (restT own τ τ1))[j]? = some (v, s) → (j ∈ own ∧ σ[j]? = some v ∧ τ[j]? = some s) ∨ (j ∉ own ∧ ((wipe σ own).zip τ1)[j]? = some (v, s)) := fun {j v s} h => by
    rw [List.getElem?_zip_eq_some] at h
    obtain ⟨h1, h2⟩ := h
    have hj : j < τ.length := by
      have := (List.getElem?_eq_some_iff.mp h2).1
      rwa [restT_length] at this
    rw [restT_get hj] at h2
    by_cases hm : j ∈ own
    · rw [if_pos (by simpa using hm)] at h2
      refine .inl ⟨hm, h1, ?_⟩
      rw [List.getD_eq_getElem?_getD, List.getElem?_eq_getElem hj, Option.getD_some] at h2
      rw [List.getElem?_eq_getElem hj]
      exact h2
    · rw [if_neg (by simpa using hm)] at h2
      refine .inr ⟨hm, List.getElem?_zip_eq_some.mpr ⟨by rw [wipe_get, if_neg hm]; exact h1, ?_⟩⟩
      rw [List.getD_eq_getElem?_getD, List.getElem?_eq_getElem (by omega), Option.getD_some] at h2
      rw [List.getElem?_eq_getElem (by omega)]
      exact h2
  have fl : Flat (restT own τ τ1) := fun s hs => by
    obtain ⟨j, hj⟩ := List.getElem?_of_mem hs
    have hl : j < σ.length := by
      have := (List.getElem?_eq_some_iff.mp hj).1
      rw [restT_length, ← r0.len] at this
      exact this
    rcases ent (List.getElem?_zip_eq_some.mpr ⟨List.getElem?_eq_getElem hl, hj⟩) with ⟨_, _, e⟩ | ⟨_, e⟩
    · exact r0.fl s (List.mem_of_getElem? e)
    · exact r.fl s (List.mem_of_getElem? (List.getElem?_zip_eq_some.mp e).2)
  have oneS : ∀ p ∈ σ.zip (restT own τ τ1), One F Φ H σ (restT own τ τ1) p ∧ (holds p = none ∨ ∃ j, ((wipe σ own).zip τ1)[j]? = some p) := fun p hp => by
    obtain ⟨j, hj⟩ := List.getElem?_of_mem hp
    obtain ⟨v, s⟩ := p
    rcases ent hj with ⟨hm, e1, e2⟩ | ⟨hm, e⟩
    · have ps := plain j hm s e2
      cases s with
      | non => exact ⟨trivial, .inl holds_non⟩
      | val d =>
        have hz : (v, S.val d) ∈ σ.zip τ := List.mem_of_getElem? (List.getElem?_zip_eq_some.mpr ⟨e1, e2⟩)
        have := r.one (v, .val d) (List.mem_append_right _ (List.mem_append_right _ (List.mem_append_left _ (valsOf_mem hz))))
        exact ⟨this, .inl holds_val⟩
      | raw => cases ps
      | own o => cases ps
      | lent j o => cases ps
      | ali i => cases ps
    · have hz := List.mem_of_getElem? e
      exact ⟨(r.one _ (List.mem_append_left _ hz)).slots (r.fl _ (List.of_mem_zip hz).2), .inr ⟨j, e⟩⟩
  -- the air
  have real : ∀ (i : Nat) (s : S), τ[i]? = some s → s.real → ∃ t : S, (restT own τ τ1)[i]? = some t ∧ t.real := fun i s e q => by
    have hi : i < τ.length := (List.getElem?_eq_some_iff.mp e).1
    rw [restT_get hi]
    by_cases hm : i ∈ own
    · rw [if_pos (by simpa using hm)]
      refine ⟨_, rfl, ?_⟩
      rw [List.getD_eq_getElem?_getD, e, Option.getD_some]
      exact q
    · rw [if_neg (by simpa using hm)]
      have ew : (wipeT own τ)[i]? = some s := by rw [wipeT_get, if_neg hm]; exact e
      obtain ⟨t, h1, h2⟩ := realOk_at ok ew q
      refine ⟨_, rfl, ?_⟩
      rw [List.getD_eq_getElem?_getD, h1, Option.getD_some]
      exact h2
  have quiet : Quiet (x ++ (valsOf (σ.zip τ) ++ tm.filter isQ)) := quiet_app qx (quiet_app valsOf_quiet isQ_quiet)
  have oneT : ∀ p ∈ x ++ tm, One F Φ H σ (restT own τ τ1) p := fun p hp => by
    rcases List.mem_append.mp hp with h | h
    · exact (r.one p (List.mem_append_right _ (List.mem_append_left _ h))).slots (qx p h)
    · by_cases hq : isQ p = true
      · have hf := List.mem_filter.mpr ⟨h, hq⟩
        exact (r.one p (List.mem_append_right _ (List.mem_append_right _ (List.mem_append_right _ hf)))).slots (isQ_quiet p hf)
      · obtain ⟨v, s⟩ := p
        cases s with
        | ali i =>
          obtain ⟨y, s, e1, e2, e3, e4⟩ := r0.one (v, .ali i) (List.mem_append_right _ h)
          obtain ⟨t, f1, f2⟩ := real i s e3 e4
          exact ⟨y, t, e1, e2, f1, f2⟩
        | _ => exact absurd rfl hq
  obtain ⟨n1, n2, n3⟩ := List.pairwise_append.mp r.nd
  have airPw : (x ++ tm).Pairwise Apart := by
    refine pw_filter (q := isQ) ?_ fun p _ h => holds_notQ h
    rw [List.filter_append]
    have ex : x.filter isQ = x := List.filter_eq_self.mpr fun p hp => by
      have := qx p hp
      obtain ⟨v, s⟩ := p
      cases s <;> first | rfl | exact this.elim
    rw [ex]
    exact n2.sublist (List.Sublist.append_left (List.sublist_append_right _ _) _)
  refine ⟨by rw [restT_length]; exact r0.len, fl, r.le0, r.le, r.pres, r.dom, r.new, fun p hp => (List.mem_append.mp hp).elim (fun h => (oneS p h).1) (oneT p), ?_, r.tabs⟩
  refine List.pairwise_append.mpr ⟨?_, airPw, fun a ha b hb => ?_⟩
  · rw [List.pairwise_iff_getElem] at n1 ⊢
    intro i j hi hj lt
    have gi := List.getElem?_eq_getElem hi
    have gj := List.getElem?_eq_getElem hj
    generalize (σ.zip (restT own τ τ1))[i] = p at gi ⊢
    generalize (σ.zip (restT own τ τ1))[j] = q at gj ⊢
    obtain ⟨pv, ps⟩ := p
    obtain ⟨qv, qs⟩ := q
    rcases ent gi with ⟨hm, e1, e2⟩ | ⟨hm, e⟩
    · have := plain i hm ps e2
      cases ps <;> first | exact apart_none holds_val | exact apart_none holds_non | cases this
    · rcases ent gj with ⟨hm2, e1, e2⟩ | ⟨hm2, e2⟩
      · have := plain j hm2 qs e2
        cases qs <;> first | exact (apart_none holds_val).symm | exact (apart_none holds_non).symm | cases this
      · obtain ⟨x1, x2⟩ := List.getElem?_eq_some_iff.mp e
        obtain ⟨y1, y2⟩ := List.getElem?_eq_some_iff.mp e2
        have := n1 i j x1 y1 lt
        rw [x2, y2] at this
        exact this
  · rcases (oneS a ha).2 with h | ⟨j, h⟩
    · exact apart_none h
    · by_cases hq : isQ b = true
      · have hb' : b ∈ x ++ (valsOf (σ.zip τ) ++ tm.filter isQ) := by
          rcases List.mem_append.mp hb with z | z
          · exact List.mem_append_left _ z
          · exact List.mem_append_right _ (List.mem_append_right _ (List.mem_filter.mpr ⟨z, hq⟩))
        exact n3 a (List.mem_of_getElem? h) b hb'
      · exact (apart_none (holds_notQ (by simpa using hq))).symm
/-- a list of ours that hangs in the air is written -/
theorem Rl.wroteAir {a : Addr} {o o' : O} {u u' : HO} (r : Rl F Φ H σ τ ((some (.ref a), .own o) :: tm)) (h : H a = some u) (h1 : ∀ ps, u ≠ .tbl ps) (h2 : ∀ φ, u ≠ .ext φ) (w : Ow F.G Φ (upd H a u') a o') : Rl F Φ (upd H a u') σ τ ((some (.ref a), .own o') :: tm) := by
  obtain ⟨b, e1, q1, q2, q3⟩ := r.hd
  cases e1
  have pm : ∀ {y : S}, (both σ τ ((some (.ref a), y) :: tm)).Perm ((some (.ref a), y) :: both σ τ tm) := fun {y} => List.perm_middle
  obtain ⟨n1, n2⟩ := List.pairwise_cons.mp ((pm.pairwise_iff fun h => Apart.symm h).mp r.nd)
  refine ⟨r.len, r.fl, r.le0, fun b z q => ?_, fun b z e n t => ?_, fun b q => ?_, r.new, fun p hp => ?_, (pm.pairwise_iff fun h => Apart.symm h).mpr (List.pairwise_cons.mpr ⟨fun p hp b hb hq => ?_, n2⟩), ⟨tabs_write r.tabs.1 h h1 h2, r.tabs.2⟩⟩
  · rw [upd_ne (fun x => by rw [x, q2] at q; cases q)]
    exact r.le _ _ q
  · rw [upd_ne (fun x => by rw [x, q3] at e; cases e)]
    exact r.pres b z e n t
  · by_cases x : b = a
    · subst x; rw [upd_same] at q; cases q
    · rw [upd_ne x] at q; exact r.dom b q
  · rcases List.mem_cons.mp (pm.mem_iff.mp hp) with e | hp
    · rw [e]
      exact ⟨a, rfl, w, q2, q3⟩
    · have op := r.one p (pm.mem_iff.mpr (List.mem_cons_of_mem _ hp))
      refine op.step (Le.refl _) fun b hb => ⟨fun z e _ => ?_, (op.own hb).1⟩
      rw [upd_ne (fun x => n1 p hp a rfl (by rw [← x]; exact hb))]
      exact e
  · cases hb
    exact n1 p hp a rfl hq
theorem Fits.blk (ft : Fits X F W) (s : Shared) (H : Hp) (scope : Scope) (cenv : Env) (fp : List Addr) : Fits (X.blk s H scope cenv fp) F W0 := ⟨ft.calm, ft.nd, ft.K, takes0, PassesOwn.never⟩
end
section
variable {X : Cx} {F : Fm} {W : WX} {Φ Φ' H H' : Hp} {σ : L2.St} {τ τ1 τ' : List S} {tm : Env1} {elt tg iter : Expr} {ifs : List Expr} {scope : Scope} {pos : Pos} {own : List (Str × Nat)} {is : List Nat} {mi : M (List D × Pin)} {g : MG} {test : M Bool} {me : M S}
theorem Wp.exc {α : Type} {c : Str} {fs : List (Str × D)} {K : α → List S → Prop} (h : Wp F W tm (.exc c fs τ) K) : ∀ cls d σ H Φ, Rl F Φ H σ τ tm → ExR F Φ H cls d c fs → W cls d σ H := h
/-- nothing raises in a run that ends well -/
theorem quietRun {α β : Type} {m : M α} {f : α → M β} {τ : List S} {r : β × List S} (h : M.bnd m f τ = .ok r) {K : α → List S → Prop} (k : ∀ a τ', m τ = .ok (a, τ') → f a τ' = .ok r → K a τ') : Wp F W0 tm (m τ) K := by
  obtain ⟨a, τ1, e1, e2⟩ := bnd_ok h
  rw [e1]
  exact k a τ1 e1 e2
theorem pts_m (h : BM X F W elt test) : PTs X [elt] (TBm F W test) := pts_one h
theorem pts_yes : PTs X [] (TBm F W bYes) := ⟨fun pins s σ H Q I ⟨Φ, τ, tm, r, h⟩ => pts_nil.run pins s σ H Q I (h H Φ r)⟩
/-- the reading of a comprehension -/
theorem t_comp {Q : VK} (sub : ∀ i ∈ is, i ∈ own.map (·.2)) (h : TEm F W (eComp (own.map (·.2)) mi g test me) σ H Q) : tLc (TIm F W mi) (TGm F W0 is g) (TBm F W0 test) (TEm F W0 me) (own.map (·.2)) σ H Q := by
  generalize hw : own.map (·.2) = ow at h sub ⊢
  obtain ⟨Φ, τ, tm, r, h⟩ := h
  refine ⟨Φ, τ, tm, r, (Wp.bnd h).mono fun p τ1 h1 J H1 Φ1 base qb r1 pn ys D hD => ?_⟩
  obtain ⟨its, pin⟩ := p
  simp only at h1 pn ys
  split at h1
  · rename_i pl
    cases hc : (M.bnd (chk pin) fun _ => compM ow pin g test me its []) (wipeT ow τ1) with
    | stuck => rw [hc] at h1; exact h1.elim
    | exc _ _ _ => rw [hc] at h1; exact h1.elim
    | ok p =>
      obtain ⟨ds, τ2⟩ := p
      rw [hc] at h1
      simp only at h1
      split at h1
      · rename_i ok
        obtain ⟨_, τc, ec, hcm⟩ := bnd_ok hc
        have pnw : pin (wipeT ow τ1) ∧ τc = wipeT ow τ1 := by
          unfold chk at ec
          split at ec
          · cases ec; exact ⟨by assumption, rfl⟩
          · cases ec
        obtain ⟨pnw, rfl⟩ := pnw
        -- what hangs in the air within
        have qs : Quiet (valsOf (σ.zip τ1) ++ tm.filter isQ) := quiet_app valsOf_quiet isQ_quiet
        have fr : Fz F.G Φ1 .non .non := .non
        -- at the start
        have r2 : Rl F Φ1 H1 σ τ1 (base ++ (valsOf (σ.zip τ1) ++ tm.filter isQ)) := by
          have rb := (r1.saved).air (tm' := base ++ (valsOf (σ.zip τ1) ++ tm.filter isQ)) (by
            refine ⟨valsOf (σ.zip τ1) ++ (base ++ tm.filter isQ), ?_, List.Sublist.append_left (List.Sublist.append_left List.filter_sublist _) _⟩
            rw [← List.append_assoc, ← List.append_assoc]
            exact List.Perm.append_right _ List.perm_append_comm)
          exact rb
        have r3 : Rl F Φ1 (upd H1 D (.lst [])) (wipe σ ow) (wipeT ow τ1) ((some (.ref D), .own (.lst [])) :: (base ++ (valsOf (σ.zip τ1) ++ tm.filter isQ))) := (r2.wiped (quiet_app qb qs) ow).mine hD .nil
        refine ⟨fun i m H => ∃ Φ τ acc, Rl F Φ H (wipe σ ow) τ ((some (.ref D), .own (.lst acc)) :: (base ++ (valsOf (σ.zip τ1) ++ tm.filter isQ))) ∧ pin τ ∧ m = its.length - i ∧ compM ow pin g test me (its.drop i) acc τ = .ok (ds, τ2), ⟨its.length, Φ1, wipeT ow τ1, [], r3, pnw, by simp, by rw [List.drop_zero]; exact hcm⟩, ?_⟩
        rintro i m H3 ⟨Φ3, τ3, acc, r4, pn3, rfl, h3⟩
        have r4' : Rl F Φ3 H3 (wipe σ ow) τ3 (base ++ ((some (.ref D), .own (.lst acc)) :: (valsOf (σ.zip τ1) ++ tm.filter isQ))) := r4.air (.perm List.perm_middle.symm)
        obtain ⟨y1, y2⟩ := ys (i := i) r4' pn3
        by_cases hlt : i < its.length
        · obtain ⟨d, hd⟩ : ∃ d, its[i]? = some d := ⟨its[i], List.getElem?_eq_getElem hlt⟩
          obtain ⟨go, yl⟩ := y1 d hd
          rw [List.drop_eq_getElem_cons hlt] at h3
          have ed : its[i] = d := by rw [List.getElem?_eq_getElem hlt] at hd; exact Option.some.inj hd
          rw [ed] at h3
          refine .inr ⟨go, fun H' => ∃ Φ τ acc, Rl F Φ H' (wipe σ ow) τ ((some (.ref D), .own (.lst acc)) :: (base ++ (valsOf (σ.zip τ1) ++ tm.filter isQ))) ∧ pin τ ∧ compM ow pin g test me (its.drop (i + 1)) acc τ = .ok (ds, τ2), fun H' ⟨Φ5, τ5, acc5, r5, pn5, h5⟩ => ⟨its.length - (i + 1), by omega, Φ5, τ5, acc5, r5, pn5, rfl, h5⟩, fun x H4 hy => ?_⟩
          obtain ⟨Φ4, r5⟩ := yl x H4 hy
          have qD : Quiet (base ++ ((some (V.ref D), S.own (.lst acc)) :: (valsOf (σ.zip τ1) ++ tm.filter isQ))) := quiet_app qb fun p hp => by
            rcases List.mem_cons.mp hp with e | hp
            · rw [e]; trivial
            · exact qs p hp
          refine ⟨Φ4, τ3, base ++ ((some (.ref D), .own (.lst acc)) :: (valsOf (σ.zip τ1) ++ tm.filter isQ)), .val d, trivial, qD, r5, ?_⟩
          unfold compM at h3
          refine quietRun h3 fun _ τ4 e4 h4 σ6 H6 Φ6 r6 b6 => ⟨wipe_but b6 sub, ?_⟩
          have wb : wipe σ6 ow = wipe σ ow := wipe_but b6 sub
          -- the turn's end
          have fin : ∀ {H' Φ' τ' acc'}, Rl F Φ' H' σ6 τ' (base ++ ((some (V.ref D), S.own (.lst acc')) :: (valsOf (σ.zip τ1) ++ tm.filter isQ))) → Quiet (base ++ ((some (V.ref D), S.own (.lst acc')) :: (valsOf (σ.zip τ1) ++ tm.filter isQ))) → (M.bnd (wip ow) fun _ => M.bnd (chk pin) fun _ => compM ow pin g test me (its.drop (i + 1)) acc') τ' = .ok (ds, τ2) →
              ∃ Φ τ acc, Rl F Φ H' (wipe σ ow) τ ((some (.ref D), .own (.lst acc)) :: (base ++ (valsOf (σ.zip τ1) ++ tm.filter isQ))) ∧ pin τ ∧ compM ow pin g test me (its.drop (i + 1)) acc τ = .ok (ds, τ2) := fun {H' Φ' τ' acc'} r' q' h' => by
            obtain ⟨_, τ7, e7, h7⟩ := bnd_ok h'
            cases e7
            obtain ⟨_, τ8, e8, h8⟩ := bnd_ok h7
            unfold chk at e8
            split at e8
            · rename_i pn8
              cases e8
              have r7 := r'.wiped q' ow
              rw [wb] at r7
              exact ⟨Φ', _, acc', r7.air (.perm List.perm_middle), pn8, h8⟩
            · cases e8
          refine ⟨Φ6, τ4, _, r6, quietRun h4 fun b τ5 e5 h5 H7 Φ7 r7 => ?_⟩
          cases b with
          | false =>
            rw [if_neg Bool.false_ne_true] at h5 ⊢
            exact fin r7 qD h5
          | true =>
            rw [if_pos rfl] at h5 ⊢
            refine ⟨Φ7, τ5, _, r7, quietRun h5 fun s τ6 e6 h6 y H8 Φ8 r8 => ?_⟩
            obtain ⟨yd, τ9, e9, h9⟩ := bnd_ok h6
            obtain ⟨Φ9, r9⟩ := Rl.taken r8 e9
            obtain ⟨u, τa, ea, ha⟩ := bnd_ok h9
            have fl : fitL (acc.length + 1) = some u ∧ τa = τ9 := by
              unfold M.of at ea
              split at ea
              · cases ea; exact ⟨by assumption, rfl⟩
              · cases ea
            obtain ⟨fl, rfl⟩ := fl
            have hz := fit_ok fl
            have r10 : Rl F Φ9 H8 σ6 τa ((some (.ref D), .own (.lst acc)) :: ((some y, .val yd) :: (base ++ (valsOf (σ.zip τ1) ++ tm.filter isQ)))) := r9.air (.perm (by
              refine List.Perm.trans ?_ (List.Perm.swap _ _ _)
              exact List.Perm.cons _ List.perm_middle))
            obtain ⟨a, e1, ⟨vs, hs, ft⟩, _, _⟩ := r10.hd
            cases e1
            obtain ⟨yy, e2, fy⟩ := r10.tl.hd
            cases e2
            refine ⟨vs, hs, by rw [ft.length]; omega, ?_⟩
            have r11 := r10.wroteAir (o' := .lst (acc ++ [yd])) (u' := .lst (vs ++ [y])) hs (fun _ z => by cases z) (fun _ z => by cases z) ⟨vs ++ [y], upd_same, FzL.append ft (.cons fy .nil)⟩
            have r12 : Rl F Φ9 (upd H8 D (.lst (vs ++ [y]))) σ6 τa (base ++ ((some (V.ref D), S.own (.lst (acc ++ [yd]))) :: (valsOf (σ.zip τ1) ++ tm.filter isQ))) := r11.air (by
              refine ⟨(some (V.ref D), S.own (.lst (acc ++ [yd]))) :: (base ++ (valsOf (σ.zip τ1) ++ tm.filter isQ)), List.perm_middle.symm, List.Sublist.cons_cons _ (List.sublist_cons_self _ _)⟩)
            exact fin r12 (quiet_app qb fun p hp => by
              rcases List.mem_cons.mp hp with e | hp
              · rw [e]; trivial
              · exact qs p hp) ha
        · have hle : its.length ≤ i := by omega
          rw [List.drop_eq_nil_of_le hle] at h3
          unfold compM at h3
          cases h3
          have r5 : Rl F Φ3 H3 (wipe σ ow) τ2 ([(some (.ref D), .own (.lst ds))] ++ (valsOf (σ.zip τ1) ++ tm.filter isQ)) := r4.air (.of (List.Sublist.cons_cons _ (List.sublist_append_right _ _)))
          exact .inl ⟨y2 hle, h1 (.ref D) H3 Φ3 (r1.unbase.rest r5 (fun p hp => by
            cases hp with
            | head => trivial
            | tail _ h => cases h) pl ok)⟩
      · exact h1.elim
  · exact h1.elim
end
end Mi

/-! ### M10: comprehensions as rules; append, x[i] = v, slices -/
namespace Mi
open PySem PySem.Spec PyProof.Rows L2
section
variable {X : Cx} {F : Fm} {W : WX} {Φ Φ' H H' : Hp} {σ : L2.St} {τ τ1 τ' : List S} {tm : Env1} {elt tg iter : Expr} {ifs : List Expr} {scope : Scope} {pos : Pos} {own : List (Str × Nat)} {is : List Nat} {mi : M (List D × Pin)} {g : MG} {test : M Bool} {me : M S}
abbrev TsM (X : Cx) (F : Fm) (W : WX) (ifs : List Expr) (m : M Bool) : Prop := PTs X ifs (TBm F W m)
theorem em_comp (own : List (Str × Nat)) (ft : Fits X F W) (hi : IM X F W tg iter mi)
    (hg : ∀ (s : Shared) (H : Hp) (C : Addr) (cl : List (Str × Addr)) (fp : List Addr), Fits (X.blk s H scope (compEnvC scope cl C X.env) fp) F W0 → GM (X.blk s H scope (compEnvC scope cl C X.env) fp) F W0 tg is g)
    (ht : ∀ (s : Shared) (H : Hp) (C : Addr) (cl : List (Str × Addr)) (fp : List Addr), Fits (X.blk s H scope (compEnvC scope cl C X.env) fp) F W0 → TsM (X.blk s H scope (compEnvC scope cl C X.env) fp) F W0 ifs test)
    (he : ∀ (s : Shared) (H : Hp) (C : Addr) (cl : List (Str × Addr)) (fp : List Addr), Fits (X.blk s H scope (compEnvC scope cl C X.env) fp) F W0 → EM (X.blk s H scope (compEnvC scope cl C X.env) fp) F W0 elt me)
    (ok : blkC X.N X.env.scope scope own = true := by first | kernel_rfl | decide +kernel) (sub : (is.all fun i => (own.map (·.2)).contains i) = true := by decide) (hs : ∀ x, foldedSetIterable iter X.env x = pure x := by intro _; rfl) :
    EM X F W (.ListComp elt [⟨tg, iter, ifs, 0⟩] scope pos) (eComp (own.map (·.2)) mi g test me) :=
  PE.imp (pe_lc ft.calm ft.nd hi (blkOk_by ok) (fun s H C cl fp => hg s H C cl fp (ft.blk s H scope _ fp)) (fun s H C cl fp => ht s H C cl fp (ft.blk s H scope _ fp)) (fun s H C cl fp => he s H C cl fp (ft.blk s H scope _ fp)) hs)
    fun σ H Q h => t_comp (fun i hi => by simpa using List.all_eq_true.mp sub i hi) h
/-- y = [..] on one line -/
theorem sm_setComp (i : Nat) (own : List (Str × Nat)) {y : Str} {py spos : Pos} (ft : Fits X F W) (hi : IM X F W tg iter mi)
    (hg : ∀ (s : Shared) (H : Hp) (C : Addr) (cl : List (Str × Addr)) (fp : List Addr), Fits (X.blk s H scope (compEnvC scope cl C X.env) fp) F W0 → GM (X.blk s H scope (compEnvC scope cl C X.env) fp) F W0 tg is g)
    (ht : ∀ (s : Shared) (H : Hp) (C : Addr) (cl : List (Str × Addr)) (fp : List Addr), Fits (X.blk s H scope (compEnvC scope cl C X.env) fp) F W0 → TsM (X.blk s H scope (compEnvC scope cl C X.env) fp) F W0 ifs test)
    (he : ∀ (s : Shared) (H : Hp) (C : Addr) (cl : List (Str × Addr)) (fp : List Addr), Fits (X.blk s H scope (compEnvC scope cl C X.env) fp) F W0 → EM (X.blk s H scope (compEnvC scope cl C X.env) fp) F W0 elt me)
    (hy : X.N[i]? = some y := by rfl) (hyl : X.env.scope.names.lookup y = some .local := by rfl) (hsw : swapsWith (.ListComp elt [⟨tg, iter, ifs, 0⟩] scope pos) (some (.Name y py)) spos.line X.env = pure true := by exact sw_true rfl rfl rfl (by decide +kernel))
    (ok : blkC X.N X.env.scope scope own = true := by first | kernel_rfl | decide +kernel) (sub : (is.all fun i => (own.map (·.2)).contains i) = true := by decide) (hs : ∀ x, foldedSetIterable iter X.env x = pure x := by intro _; rfl) :
    SM X F W (.Assign [.Name y py] (.ListComp elt [⟨tg, iter, ifs, 0⟩] scope pos) spos) (sAsg i (eComp (own.map (·.2)) mi g test me)) :=
  PS.imp (ps_setLc ft.calm ft.nd hy hyl hsw hi (blkOk_by ok) (fun s H C cl fp => hg s H C cl fp (ft.blk s H scope _ fp)) (fun s H C cl fp => ht s H C cl fp (ft.blk s H scope _ fp)) (fun s H C cl fp => he s H C cl fp (ft.blk s H scope _ fp)) hs)
    fun D σ H ⟨Φ, τ, tm, qt, r, h⟩ => t_comp (fun i hi => by simpa using List.all_eq_true.mp sub i hi) (te_go r (Wp.bnd h) fun s τ1 v H1 Φ1 p r1 => by
      obtain ⟨s', τ2, Φ2, na, r2, k⟩ := give_cases r1 (Wp.bnd p)
      exact k _ _ _ (r2.store na qt i))

/-! #### append, x[i] = v -/
def isL (s : S) : M Unit := fun τ => match s with
  | .ali k => (match τ[k]? with
    | some (.own (.lst _)) => .ok ((), τ)
    | some (.lent _ (.lst _)) => .ok ((), τ)
    | _ => .stuck)
  | _ => .stuck
/-- the list in the slot k is written -/
def onL (k : Nat) (f : List D → Option (List D)) : M Unit := fun τ => match τ[k]? with
  | some (.own (.lst xs)) => (match f xs with
    | some ys => .ok ((), τ.set k (.own (.lst ys)))
    | none => .stuck)
  | some (.lent j (.lst xs)) => (match f xs with
    | some ys => .ok ((), τ.set k (.lent j (.lst ys)))
    | none => .stuck)
  | _ => .stuck
def app1 (d : D) (xs : List D) : Option (List D) := if xs.length < sizeLine then some (xs ++ [d]) else none
def eAppend (mo : M S) (ms : M (List S)) : M S := M.bnd mo fun s => M.bnd (isL s) fun _ => M.bnd ms fun ss => match s, ss with
  | .ali k, [t] => M.bnd (take t) fun d => M.bnd (onL k (app1 d)) fun _ => M.ret (.val .non)
  | _, _ => fun _ => .stuck
theorem onL_cases {tm0 : Env1} {k : Nat} {f : List D → Option (List D)} {K : Unit → List S → Prop} (r : Rl F Φ H σ τ tm) (h : Wp F W tm0 (onL k f τ) K) : ∃ a xs vs ys s s' , σ[k]? = some (some (.ref a)) ∧ H a = some (.lst vs) ∧ FzL F.G Φ vs xs ∧ f xs = some ys ∧ Kin s s' (.lst xs) (.lst ys) ∧ τ[k]? = some s ∧ K () (τ.set k s') := by
  unfold onL at h
  cases e : τ[k]? with
  | none => rw [e] at h; exact h.elim
  | some s =>
    rw [e] at h
    obtain ⟨v, e1, _, o⟩ := r.at e
    cases s with
    | own ob =>
      cases ob with
      | ins _ _ => exact h.elim
      | lst xs =>
        simp only at h
        cases q : f xs with
        | none => rw [q] at h; exact h.elim
        | some ys =>
          rw [q] at h
          obtain ⟨a, e2, ⟨vs, hs, t⟩, _⟩ := o
          subst e2
          exact ⟨a, xs, vs, ys, _, _, e1, hs, t, q, .own _ _, rfl, h⟩
    | lent j ob =>
      cases ob with
      | ins _ _ => exact h.elim
      | lst xs =>
        simp only at h
        cases q : f xs with
        | none => rw [q] at h; exact h.elim
        | some ys =>
          rw [q] at h
          obtain ⟨a, e2, ⟨vs, hs, t⟩, _⟩ := o
          subst e2
          exact ⟨a, xs, vs, ys, _, _, e1, hs, t, q, .lent j _ _, rfl, h⟩
    | raw => exact h.elim
    | non => exact h.elim
    | val _ => exact h.elim
    | ali _ => exact h.elim
theorem isL_cases {tm0 : Env1} {v : V} {s : S} {K : Unit → List S → Prop} (r : Rl F Φ H σ τ ((some v, s) :: tm)) (h : Wp F W tm0 (isL s τ) K) : ∃ a k vs, v = .ref a ∧ s = .ali k ∧ σ[k]? = some (some (.ref a)) ∧ H a = some (.lst vs) ∧ K () τ := by
  unfold isL at h
  cases s with
  | ali k =>
    simp only at h
    obtain ⟨x, s, e1, e2, e3, _⟩ := r.hd
    cases e1
    rw [e3] at h
    obtain ⟨w, e4, _, o⟩ := r.at e3
    rw [e2] at e4
    cases e4
    cases s with
    | own ob =>
      cases ob with
      | ins _ _ => exact h.elim
      | lst xs =>
        obtain ⟨a, e5, ⟨vs, hs, t⟩, _⟩ := o
        cases e5
        exact ⟨a, k, vs, rfl, rfl, e2, hs, h⟩
    | lent j ob =>
      cases ob with
      | ins _ _ => exact h.elim
      | lst xs =>
        obtain ⟨a, e5, ⟨vs, hs, t⟩, _⟩ := o
        cases e5
        exact ⟨a, k, vs, rfl, rfl, e2, hs, h⟩
    | raw => exact h.elim
    | non => exact h.elim
    | val _ => exact h.elim
    | ali _ => exact h.elim
  | _ => exact h.elim
variable {o e : Expr} {mo mv mx : M S} {ms : M (List S)} {apos : Pos}
theorem em_append (ho : EM X F W o mo) (ha : LM X F W [e] ms) (hbase : attributeBase o "append" X.env (eval o X.env) = eval o X.env := by rfl)
    (hfew : ((backTo pos (starEach (e :: []) X.env)).all (fun x => !x.1) && (backToKw pos (keywordEach [] X.env)).all (fun x => x.1.isSome) && decide ((e :: []).length + ([] : List Keyword).length + (if ([] : List Keyword).isEmpty then 0 else 1) < 30)) = true := by rfl)
    (hline : (apos.endLine == pos.line) = true := by rfl) (hs : starEach (e :: []) X.env = (false, eval e X.env) :: starEach [] X.env := by rfl) (hplain : (backTo pos (starEach [] X.env)).any (·.1) = false := by rfl) :
    EM X F W (.Call (.Attribute o "append" apos) [e] [] pos) (eAppend mo ms) := PE.imp (pe_bm PySem.F.plainAttrs_list PySem.F.slot_list_append PySem.F.type_list_append mt_append ho ha hbase hfew hline hs hplain) fun σ H Q ⟨Φ, τ, tm, r, h⟩ => by
  refine te_go r (Wp.bnd h) fun s τ1 v H1 Φ1 p1 r1 => ?_
  obtain ⟨a, k, vs, rfl, rfl, es, hs, p2⟩ := isL_cases r1 (Wp.bnd p1)
  refine ⟨.inl ⟨rfl, vs, .inl (.inl hs)⟩, tl_go r1 (Wp.bnd p2) fun ss τ2 ws H2 Φ2 p3 l r2 => ?_⟩
  cases ss with
  | nil => exact p3.elim
  | cons t ss =>
    cases ss with
    | cons _ _ => exact p3.elim
    | nil =>
      obtain ⟨w, rfl⟩ : ∃ w, ws = [w] := by
        cases ws with
        | nil => cases l
        | cons w ws =>
          cases ws with
          | nil => exact ⟨w, rfl⟩
          | cons _ _ => cases l
      obtain ⟨d, τ3, e1, p4⟩ := take_cases (Wp.bnd p3)
      obtain ⟨Φ3, r3⟩ := Rl.taken (tm := (some (.ref a), .ali k) :: tm) r2 e1
      obtain ⟨y, e2, fy⟩ := r3.hd
      cases e2
      obtain ⟨a', xs, vs', ys, s, s', es', hs', t, q, ks, eτ, k2⟩ := onL_cases r3 (Wp.bnd p4)
      rw [es] at es'
      cases es'
      unfold app1 at q
      split at q
      · rename_i hz
        cases q
        refine ⟨a, vs', w, rfl, rfl, hs', by rw [t.length]; exact hz, ?_⟩
        have r4 := r3.tl.tl.wrote (u' := .lst (vs' ++ [w])) eτ es ks hs' (fun _ z => by cases z) (fun _ z => by cases z) ⟨_, upd_same, FzL.append t (.cons fy .nil)⟩
        exact k2 _ _ _ (r4.val .non)
      · cases q
def setD (i : D) (d : D) (xs : List D) : Option (List D) := match i with
  | .int n => (ixN xs.length n).map fun j => xs.set j d
  | _ => none
def sSetIx (mv mo mi : M S) : M Fl := M.bnd mv fun s => M.bnd (take s) fun d => M.bnd mo fun so => M.bnd mi fun si => M.bnd (peek si) fun i => match so with
  | .ali k => M.bnd (onL k (setD i d)) fun _ => M.ret .nx
  | _ => fun _ => .stuck
theorem sm_setIx {i : Expr} {ei : M S} {tpos : Pos} (hv : EM X F W e mv) (ho : EM X F W o mo) (hi : EM X F W i ei) (hs : swapsWithSole [.Subscript o i tpos] e pos.line X.env = pure false := by rfl) (hw : swappedStores [.Subscript o i tpos] e X.env = pure none := by rfl)
    (h1 : (assignEach [.Subscript o i tpos] X.env).map (·.2) = [assign (.Subscript o i tpos) X.env] := by rfl)
    (ha : ∀ v, assign (.Subscript o i tpos) X.env v = (do
      let ov ← holding [v] (eval o X.env)
      let iv ← holding [v, ov] (eval i X.env)
      standAt tpos
      holding [v, ov, iv] (setItem ov iv v)
      release [v, ov, iv] []) := by intro _; rfl) : SM X F W (.Assign [.Subscript o i tpos] e pos) (sSetIx mv mo ei) := PS.imp (ps_asg hv (pg_sub ho hi set_list ha) hs hw h1) fun D σ H ⟨Φ, τ, tm, qt, r, h⟩ => te_go r (Wp.bnd h) fun s τ1 v H1 Φ1 p1 r1 => by
  obtain ⟨d, τ2, e1, p2⟩ := take_cases (Wp.bnd p1)
  obtain ⟨Φ2, r2⟩ := Rl.taken r1 e1
  refine te_go r2 (Wp.bnd p2) fun so τ3 ov H3 Φ3 p3 r3 => te_go r3 (Wp.bnd p3) fun si τ4 iv H4 Φ4 p4 r4 => ?_
  obtain ⟨ix, e2, p5⟩ := Wp.peek (Wp.bnd p4)
  have rd := r4.peek r4.hd e2
  cases so with
  | ali k =>
    obtain ⟨x, s', e3, es, _⟩ := r4.tl.hd
    cases e3
    obtain ⟨y, e4, fy⟩ := r4.tl.tl.hd
    cases e4
    obtain ⟨a, xs, vs', ys, s, s2, es', hs', t, q, ks, eτ, k2⟩ := onL_cases r4 (Wp.bnd p5)
    rw [es] at es'
    cases es'
    unfold setD at q
    split at q
    · rename_i n
      obtain ⟨jx, e5, e6⟩ := Option.map_eq_some_iff.mp q
      subst e6
      refine ⟨a, vs', n, jx, rfl, rd.int, hs', by rw [t.length]; exact e5, ?_⟩
      have r5 := r4.tl.tl.tl.wrote (u' := .lst (vs'.set jx v)) eτ es ks hs' (fun _ z => by cases z) (fun _ z => by cases z) ⟨_, upd_same, FzL.set jx t fy⟩
      exact k2 _ _ _ r5
    · cases q
  | _ => exact p5.elim

/-! #### slices -/
def cut {α : Type} (xs : List α) (lo hi : Option Int) : List α := (xs.drop (HT.sIx xs.length 0 lo)).take (HT.sIx xs.length xs.length hi - HT.sIx xs.length 0 lo)
def fSl : D → Option Int → Option Int → Option S
  | .lst xs, lo, hi => some (.own (.lst (cut xs lo hi)))
  | .scr xs, lo, hi => some (.own (.lst (cut xs lo hi)))
  | .tup xs, lo, hi => if HT.sIx xs.length 0 lo = 0 ∧ HT.sIx xs.length xs.length hi = xs.length then none else some (.val (.tup (cut xs lo hi)))
  | _, _, _ => none
def asI : D → Option Int
  | .int i => some i
  | _ => none
def pNone : M (Option Int) := M.ret none
def pSome (m : M S) : M (Option Int) := M.bnd m fun s => M.bnd (peek s) fun d => M.bnd (M.of (asI d)) fun i => M.ret (some i)
def TOm (F : Fm) (W : WX) (m : M (Option Int)) : TO := fun σ H Q => ∃ Φ τ tm, Rl F Φ H σ τ tm ∧ Wp F W tm (m τ) fun o τ' => ∀ H' Φ', Rl F Φ' H' σ τ' tm → Q o H'
abbrev OM (X : Cx) (F : Fm) (W : WX) (e : Option Expr) (m : M (Option Int)) : Prop := PO X e (TOm F W m)
theorem PO.imp {e : Option Expr} {t t' : TO} (h : PO X e t) (i : ∀ σ H Q, t' σ H Q → t σ H Q) : PO X e t' := ⟨fun pins s σ H Q I q => h.run pins s σ H Q I (i _ _ _ q)⟩
theorem om_none : OM X F W none pNone := PO.imp po_none fun σ H Q ⟨Φ, τ, tm, r, h⟩ => h H Φ r
theorem om_some (h : EM X F W e mx) : OM X F W (some e) (pSome mx) := PO.imp (po_some h) fun σ H Q ⟨Φ, τ, tm, r, h⟩ => te_go r (Wp.bnd h) fun s τ1 v H1 Φ1 p1 r1 => by
  obtain ⟨d, e1, p2⟩ := Wp.peek (Wp.bnd p1)
  obtain ⟨i, e2, k⟩ := Wp.of (Wp.bnd p2)
  have rd := r1.peek r1.hd e1
  cases d with
  | int j => cases e2; exact ⟨_, rd.int, k H1 Φ1 r1.tl⟩
  | _ => cases e2
def eSl (mx : M S) (ml mh : M (Option Int)) : M S := M.bnd mx fun s => M.bnd ml fun lo => M.bnd mh fun hi => M.bnd (peek s) fun d => M.of (fSl d lo hi)
theorem cut_fz {G : Gx} {vs : List V} {ds : List D} {lo hi : Option Int} (q : FzL G Φ vs ds) : FzL G Φ (cutV vs lo hi) (cut ds lo hi) := by
  unfold cutV cut
  rw [q.length]
  exact FzL.take _ (FzL.drop _ q)
theorem em_sl {lo hi : Option Expr} {ml mh : M (Option Int)} {p2 : Pos} (hK : X.K = F.G.K) (hx : EM X F W e mx) (hl : OM X F W lo ml) (hh : OM X F W hi mh) : EM X F W (.Subscript e (.Slice lo hi none p2) pos) (eSl mx ml mh) := PE.imp (pe_slice (sl_list.or sl_tup) hx hl hh) fun σ H Q ⟨Φ, τ, tm, r, h⟩ => te_go r (Wp.bnd h) fun s τ1 v H1 Φ1 p1 r1 => by
  refine ⟨Φ1, τ1, _, r1, ((Wp.bnd p1).air (Subp.cons' (Subp.of (List.Sublist.refl _)))).mono fun lo' τ2 p2 H2 Φ2 r2 => ⟨Φ2, τ2, _, r2, ((Wp.bnd p2).air (Subp.cons' (Subp.of (List.Sublist.refl _)))).mono fun hi' τ3 p3 H3 Φ3 r3 => ?_⟩⟩
  obtain ⟨d, e1, p4⟩ := Wp.peek (Wp.bnd p3)
  obtain ⟨s', e2, k⟩ := Wp.of p4
  have rd := r3.peek r3.hd e1
  unfold fSl at e2
  split at e2
  · cases e2
    obtain ⟨a, vs, e3, e4, q⟩ := rd.lst r3.le
    exact .inl ⟨a, vs, e3, .inl (.inl e4), fun p hp => k _ _ _ (r3.tl.mine hp (cut_fz q))⟩
  · cases e2
    obtain ⟨a, vs, e3, e4, q⟩ := rd.scr r3.le
    exact .inl ⟨a, vs, e3, by rw [hK]; exact e4, fun p hp => k _ _ _ (r3.tl.mine hp (cut_fz q))⟩
  · split at e2
    · cases e2
    · rename_i hz
      cases e2
      obtain ⟨a, vs, e3, e4, q⟩ := rd.tup r3.le
      exact .inr ⟨a, vs, e3, by rw [hK]; exact e4, by rw [q.length]; exact hz, fun p hp => k _ _ _ (r3.tl.tuple hp (cut_fz q))⟩
  · cases e2
end
end Mi

/-! ### M11: errors raised and caught -/
namespace Mi
open PySem PySem.Spec PyProof.Rows L2

/-- an __init__ that stores its parameters under their names: f ⟨self, v ..⟩ -/
def spExi (K : PySem.W.Frag) (fs : List Str) : Sp := fun vs H Q _ => ∃ (a C : Addr) (ws : List V), vs = .ref a :: ws ∧ ws.length = fs.length ∧ fs.length ≤ 100 ∧ OexC K C ∧ (∀ f ∈ fs, PySem.W.findIn K (.ref C) f = some none) ∧ H a = some (exo a C none) ∧
  ∀ dx, H dx = none → dx ≠ a → Q .non (upd (upd H dx (exd dx (fs.zip ws).reverse)) a (exo a C (some dx)))
structure ExcOk (P : Program) (w : World) (K : PySem.W.Frag) (mg : Str → Option Value) (base : Heap) (G : Gx) (j : Nat) (x : Str) (fs : List Str) : Prop where
  ex : ∃ C fI fd ps, G.cls x = some C ∧ mg x = some (.ref C) ∧ OexC K C ∧ PySem.W.findIn K (.ref C) "__init__" = some (some (.ref fI)) ∧ PySem.W.typeIn K (.ref fI) = some (.type "function") ∧
    FnOk P w K mg base (L2.CX P w) j fI fd ps (spExi K fs) ∧ Binds K fd ps [] ∧ ∀ f ∈ fs, PySem.W.findIn K (.ref C) f = some none
  few : fs.length ≤ 100
def sRaise (x : Str) (fs : List Str) (ms : M (List S)) : M Fl := M.bnd ms fun ss => M.bnd (takeAll ss) fun ds => fun τ => if ds.length = fs.length then .exc x (fs.zip ds).reverse τ else .stuck
section
variable {X : Cx} {F : Fm} {W : WX} {Φ Φ' H H' : Hp} {σ : L2.St} {τ τ' : List S} {tm : Env1}
theorem FzF.append {G : Gx} : ∀ {vs ws : List (Str × V)} {ds es : List (Str × D)}, FzF G Φ vs ds → FzF G Φ ws es → FzF G Φ (vs ++ ws) (ds ++ es)
  | _, _, _, _, .nil, h => h
  | _, _, _, _, .cons h t, q => .cons h (FzF.append t q)
theorem FzF.reverse {G : Gx} : ∀ {vs : List (Str × V)} {ds : List (Str × D)}, FzF G Φ vs ds → FzF G Φ vs.reverse ds.reverse
  | _, _, .nil => .nil
  | _, _, .cons h t => by
    rw [List.reverse_cons, List.reverse_cons]
    exact FzF.append (FzF.reverse t) (.cons h .nil)
theorem FzF.zip {G : Gx} : ∀ {fs : List Str} {vs : List V} {ds : List D}, FzL G Φ vs ds → FzF G Φ (fs.zip vs) (fs.zip ds)
  | [], _, _, _ => .nil
  | _ :: _, _, _, .nil => .nil
  | _ :: _, _, _, .cons h t => .cons h (FzF.zip t)
theorem sm_raise {x : Str} {p p2 p3 : Pos} {a : Expr} {es : List Expr} {j : Nat} {fs : List Str} {ms : M (List S)} (ft : Fits X F W) (hr : Room (j + 1) X.A) (xo : ExcOk X.prog X.w X.K X.mg X.base F.G j x fs) (ha : LM X F W (a :: es) ms) (hg : Gl X x := by rfl) (hdb : (x == ("__debug__" : Str)) = false := by decide) (he : starEach (a :: es) X.env = (false, eval a X.env) :: starEach es X.env := by rfl) (hpl : (backTo p2 (starEach es X.env)).any (·.1) = false := by rfl) :
    SM X F W (.Raise (some (.Call (.Name x p) (a :: es) [] p2)) none p3) (sRaise x fs ms) := by
  obtain ⟨C, fI, fd, ps, gc, gm, T, iC, tI, G, b, nof⟩ := xo.ex
  refine PS.imp (ps_raise ft.calm ft.tk (pmk_oex T iC tI G hr b .nil passL hg gm ha hdb he hpl)) fun D σ H ⟨Φ, τ, tm, qt, r, h⟩ => ?_
  refine tl_go r (Wp.bnd h) fun ss τ1 vs H1 Φ1 p1 l r1 => ?_
  obtain ⟨ds, τ2, e, p2⟩ := takeAll_cases (Wp.bnd p1)
  obtain ⟨Φ2, r2, q⟩ := Rl.takenAll l r1 e
  split at p2
  · rename_i hz
    have lv : vs.length = fs.length := by rw [q.length]; exact hz
    refine ⟨by rw [lv]; have := xo.few; omega, fun a ha' => ⟨a, C, vs, by rw [List.append_nil], lv, xo.few, T, nof, upd_same, fun dx hdx ne => ⟨rfl, dx, (fs.zip vs).reverse, upd_same, ?_, ?_, ?_⟩⟩⟩
    · rw [upd_ne ne, upd_same]
    · rw [upd_ne ne] at hdx
      exact hdx
    · have hn : H1 dx = none := by rw [upd_ne ne] at hdx; exact hdx
      have eH : upd (del (upd (upd (upd H1 a (exo a C none)) dx (exd dx (fs.zip vs).reverse)) a (exo a C (some dx))) a) dx (.xd (fs.zip vs).reverse) = upd H1 dx (.xd (fs.zip vs).reverse) := by
        funext c
        by_cases h1 : c = dx
        · subst h1; rw [upd_same, upd_same]
        · rw [upd_ne h1, upd_ne h1]
          by_cases h2 : c = a
          · subst h2; rw [del_same]; exact ha'.symm
          · rw [del_ne h2, upd_ne h2, upd_ne h1, upd_ne h2]
      rw [eH]
      have r3 := r2.within (o := .xd (fs.zip vs).reverse) hn
      refine p2 (.ref C) (some dx) σ _ _ r3 ⟨C, gc, rfl, .inr ⟨dx, _, rfl, upd_same, ?_⟩⟩
      exact FzF.le (le_upd (r2.fre hn)) (FzF.reverse (FzF.zip q))
  · exact p2.elim

/-! #### caught -/
/-- an exception that landed is tracked from now on -/
theorem track {X : Cx} {pins : List (Addr × Obj)} {σ : L2.St} {H : Hp} {s : Shared} {a C : Addr} {d : Option Addr} {oe : Obj} {vs : Array Value} (I : Inv X pins σ H s) (he : s.heap.get? a = some oe) (hz : Zc (.ref C) d oe) (hd : oe.data = .fields vs) (hn : H a = none) (n0 : X.s_0.heap.get? a = none) (nL : a ≠ X.env.locals) (nC : ∀ y c, X.env.cells.lookup y = some c → c ≠ a)
    (nP : ∀ p ∈ X.pn ++ pins, p.1 ≠ a) : Inv X pins σ (upd H a (exn a C d)) s := by
  have ne : ∀ {b : Addr} {u : HO}, H b = some u → b ≠ a := fun {b u} q => ne_of_none q hn
  refine ⟨I.ok, I.os, I.bare, ⟨I.base.keep, I.base.slot, fun b o e n hx => ?_, I.base.there, fun b xs e => ?_, fun b o u e => ?_, fun b ps e => ?_⟩, I.loc, I.cell, ?_, fun y c e => ?_, fun p hp => ?_, fun b o e => ?_, I.len⟩
  · rw [upd_ne (fun z => by rw [z, n0] at e; cases e)]
    exact I.base.free b o e n hx
  · have q := I.base.tups b xs e
    rw [upd_ne (ne q)]
    exact q
  · have q := I.base.frzs b o u e
    rw [upd_ne (ne q)]
    exact q
  · obtain ⟨more, q⟩ := I.base.tbls b ps e
    exact ⟨more, by rw [upd_ne (ne q)]; exact q⟩
  · rw [upd_ne (Ne.symm nL)]
    exact I.free
  · rw [upd_ne (nC y c e)]
    exact I.freeC y c e
  · obtain ⟨e1, e2, e3, e4, e5⟩ := I.pin p hp
    exact ⟨e1, by rw [upd_ne (nP p hp)]; exact e2, e3, e4, e5⟩
  · by_cases hb : b = a
    · subst hb
      rw [upd_same] at e
      cases e
      refine ⟨⟨oe, vs, he, hz.1, hz.2, hd⟩, ⟨oe, he⟩, fun h1 h2 ⟨oe', vs', q1, q2, q3, q4⟩ k => ⟨oe', vs', k _ q1, q2, q3, q4⟩⟩
    · rw [upd_ne hb] at e
      exact (I.hok b o e).stay (fun c v _ z => z) (fun c hc => by rw [upd_ne (ne hc)]; exact hc) (fun c xs hc => by rw [upd_ne (ne hc)]; exact hc)
/-- the context of a suite behind which the error is kept -/
abbrev suiteK (X : Cx) (a : Addr) (pn : List (Addr × Obj)) : Cx := X.suite a pn
/-- what the clause 'except x as n' wishes -/
def wKeep (K : PySem.W.Frag) (c : Value) (i : Nat) (ts : L2.TS) (Wout : WX) (D : Ends) : WX := fun cls d σ H =>
  ∃ b, PySem.W.exmOne K cls c = some b ∧ (b = true → ∃ C, cls = .ref C ∧ ∀ a, H a = none → ts { nx := fun σ' H' => D.nx (σ'.set i none) H', rt := D.rt, bk := fun σ' H' => D.bk (σ'.set i none) H', ct := fun σ' H' => D.ct (σ'.set i none) H' } (σ.set i (some (.ref a))) (upd H a (exn a C d))) ∧
    (b = false → Wout cls d σ H)
theorem ps_try_keep {x n : Str} {c : Value} {i : Nat} {body suite : List Stmt} {b₀ : Stmt} {np pos pos' : Pos} {tb : WX → L2.TS} {ts : L2.TS} {Wout : WX} (hex : X.ex = []) (hs : X.stack = X.env :: X.outer) (hf : X.env.frame = some X.env.locals) (hN : X.N.Nodup) (hi : X.N[i]? = some n) (hln : X.env.kindOf n = some .local) (hc : Names X x c) (tk : Takes X Wout)
    (hb : ∀ (W : WX) (pn : List (Addr × Obj)) (xe : Value → Shared → Prop), Takes (X.tr pn xe) W → PassesOwn (model X.prog X.w) X.A X.env xe → PSs (X.tr pn xe) body (tb W))
    (hsu : ∀ (a : Addr) (pn : List (Addr × Obj)), PSs (X.suite a pn) (b₀ :: suite) ts) :
    PS X (.Try body [.ExceptHandler (some (.Name x np)) (some n) (b₀ :: suite) pos'] [] [] pos) (fun D σ H => tb (wKeep X.K c i ts Wout D) D σ H) := by
  refine ⟨fun pins s σ H D I h => ?_⟩
  have ok := I.ok
  have hfr : X.A.frames = some (X.env :: X.outer) := by rw [ok.frames, hs]
  have hloc : Loc X.env.scope n := .inl hln
  refine wpAny_Try_except ?_
  refine wpAny_mono ((hb (wKeep X.K c i ts Wout D) (X.pn ++ pins) (fun e s₁ => wpAny (model X.prog X.w) X.A (noteFrame e X.env) (fun _ s₂ => wpAny (model X.prog X.w) X.A (setFlight e none) (fun _ s₃ =>
    wpAny (model X.prog X.w) X.A (handleBy e X.env [.ExceptHandler (some (.Name x np)) (some n) (b₀ :: suite) pos']) (SP X pins D) X.xe s₃) X.xe s₂) X.xe s₁) (fun u s' xx => ?_) PassesOwn.looking).run [] s σ H D (I.toTry _) h) (fun f s1 hsp => ?_) (fun e s1 he => he)
  · obtain ⟨a, B, sI, pins', σ', H', cls, d, rfl, J', nb, up, sky, na, os, ag, b, hb1, hyes, hno⟩ := xx
    have J : Inv X pins σ' H' sI := J'.ofTry ok
    have sky' : Sky B (X.env :: X.outer) a (Zc cls d) X.env.locals s'.heap := by rw [← hs]; exact sky
    show wpAny (model X.prog X.w) X.A (noteFrame (.ref a) X.env) _ _ _
    refine Sky.land Zc.steady hfr hf sky' fun h3 fl3 up3 => ?_
    have J3 : Inv X pins σ' H' { s' with heap := h3 } := J.landed nb fl3.1 (up.trans up3) os ag
    obtain ⟨oe3, vs3, he3, hz3, hd3⟩ := fl3.there
    have notFr : ∀ {h : Heap} {o : Obj} {vs : Array Value}, h.FunFrames B (X.env :: X.outer) → h.get? a = some o → o.data = .fields vs → a ∉ frs (X.env :: X.outer) := fun {h o vs} ff e dd hm => by
      obtain ⟨_, o', e', hnf⟩ := ff.mem hm
      rw [e] at e'; cases e'
      exact hnf _ dd
    have nfr := notFr fl3.2.2.1 he3 hd3
    have nL : a ≠ X.env.locals := fun z => nfr (List.mem_filterMap.mpr ⟨X.env, List.mem_cons_self, by rw [hf, z]⟩)
    have nF : a ∉ X.fs := fun hm => by
      obtain ⟨e, he, q⟩ := List.mem_filterMap.mp hm
      exact nfr (List.mem_filterMap.mpr ⟨e, List.mem_cons_of_mem _ he, q⟩)
    -- the error stood not in the state without it
    have noB : B.get? a = none := fl3.2.1
    have noI : sI.heap.get? a = none := by
      cases q : sI.heap.get? a with
      | none => rfl
      | some o =>
        have := nb a o q (by rw [hs]; exact nfr)
        rw [noB] at this; cases this
    have no0 : X.s_0.heap.get? a = none := by
      cases q : X.s_0.heap.get? a with
      | none => rfl
      | some o =>
        obtain ⟨o', q2⟩ := J.base.there a o q (by rw [hex]; exact fun z => nomatch z)
        rw [noI] at q2; cases q2
    have noC : ∀ y c, X.env.cells.lookup y = some c → c ≠ a := fun y c e z => by
      obtain ⟨v, o, q, _⟩ := J.cell y c e
      rw [z, noI] at q; cases q
    have noP : ∀ p ∈ X.pn ++ pins, p.1 ≠ a := fun p hp z => by
      obtain ⟨q, _⟩ := J.pin p hp
      rw [z, noI] at q; cases q
    have S3 := J3.suite he3 hd3 na nL nF
    refine wpAny_handleBy_cons (codeAny_handlers_test ?_) (by intro q; cases q)
    have LT : PySem.W.Looks (model X.prog X.w) h3 (typeOf (.ref a)) cls := fun A Q E s k q => wpAny_typeOf_ref (k _ _ he3) (by rw [hz3.1]; exact q)
    have LM := PySem.W.exm_one (M := model X.prog X.w) (J3.kIn) LT hb1
    have test : ∀ {Q : Value → Shared → Prop} {E : Value → Shared → Prop}, Q c { s' with heap := h3 } → wpAny (model X.prog X.w) (X.A.mark (some (.ref a))) (eval (.Name x np) X.env) Q E { s' with heap := h3 } := fun {Q E} q => by
      obtain ⟨hg, hdbg, hm | ⟨hm, hv, hnn⟩⟩ := hc
      · exact ld_glob (X := X.suite a ((a, oe3) :: (X.pn ++ pins))) S3 hg hm q hdbg
      · exact ld_blt (X := X.suite a ((a, oe3) :: (X.pn ++ pins))) S3 hg hm hv q hnn hdbg
    refine test (LM.here ?_)
    cases b with
    | true =>
      obtain ⟨C, ecls, hyes2⟩ := hyes rfl
      subst ecls
      refine codeAny_handlers_suite_as ?_
      refine HandSPX.lands_againZ fl3 fun h4 fl4 up4 => ?_
      have J4 : Inv X pins σ' H' { s' with heap := h4 } := J.landed nb fl4.1 ((up.trans up3).trans up4) os ag
      obtain ⟨oe4, vs4, he4, hz4, hd4⟩ := fl4.there
      have J5 := track J4 he4 hz4 hd4 na no0 nL noC noP
      have S4 : Inv (X.suite a (X.pn ++ pins)) [] σ' (upd H' a (exn a C d)) { s' with heap := h4 } := ⟨J5.ok.suite _ _, J5.os, J5.bare, J5.base, J5.loc, J5.cell, J5.free, J5.freeC, fun p hp => J5.pin p (by rw [List.append_nil] at hp; exact hp), J5.hok, J5.len⟩
      have un : ∀ {σ6 : L2.St} {H6 : Hp} {s6 : Shared}, Inv (X.suite a (X.pn ++ pins)) [] σ6 H6 s6 → Inv X pins σ6 H6 s6 := fun I6 => ⟨ok, I6.os, I6.bare, I6.base, I6.loc, I6.cell, I6.free, I6.freeC, fun p hp => I6.pin p (List.mem_append_left _ hp), I6.hok, I6.len⟩
      refine store_ok (X := X.suite a (X.pn ++ pins)) (v := .ref a) S4 hN hi hloc rfl (fun s5 S5 => ?_) (.inr hln)
      refine wpAny_mono ((hsu a (X.pn ++ pins)).run [] s5 _ _ _ S5 (hyes2 a na)) (fun f s6 hsp => ?_) (fun _ _ z => False.elim z)
      have end_ : ∀ {σ6 : L2.St} {H6 : Hp} {Q : Shared → Prop}, Inv (X.suite a (X.pn ++ pins)) [] σ6 H6 s6 → (∀ s7, Inv X pins (σ6.set i none) H6 s7 → Q s7) →
          wpAny (model X.prog X.w) X.A (do bindName X.env n .none; unbindBehindTheSuite X.env n pos') (fun _ s7 => Q s7) X.xe s6 := fun {σ6 H6 Q} S6 hq => gone_ok (un S6) hN hi hln hq
      cases f with
      | next =>
        obtain ⟨σ6, H6, S6, q6⟩ := hsp
        exact end_ S6 fun s7 J7 => ⟨_, _, J7, q6⟩
      | brk =>
        obtain ⟨σ6, H6, S6, q6⟩ := hsp
        exact end_ S6 fun s7 J7 => ⟨_, _, J7, q6⟩
      | cont =>
        obtain ⟨σ6, H6, S6, q6⟩ := hsp
        exact end_ S6 fun s7 J7 => ⟨_, _, J7, q6⟩
      | ret u =>
        obtain ⟨v6, σ6, H6, S6, r6, q6⟩ := hsp
        exact end_ S6 fun s7 J7 => ⟨_, _, _, J7, r6, q6⟩
    | false =>
      show wpAny _ X.A (handleBy (.ref a) X.env []) _ _ _
      refine wpAny_handleBy_nil ?_
      obtain ⟨k1, k2, k3, oe, vs, T, oT, ts', he, hz, hd, h1, hr⟩ := id fl3
      unfold PySem.passOn
      refine wpAny_bind (wpAny_field he hd h1 ?_)
      rw [if_neg (show ¬ ((Value.ref T == Value.none) = true) from by simp)]
      have fin : wpAny (model X.prog X.w) X.A (setFlight (.ref a) X.env.frame) (fun _ s4 => wpAny (model X.prog X.w) X.A (throw (.ref a) : Sem Flow) (SP X pins D) X.xe s4) X.xe { s' with heap := h3 } := by
        rw [hf]
        refine HandSPX.setFlight_upZ fl3 fun h4 hh4 up4 => wpAny_throw (tk _ _ ?_)
        exact ⟨a, B, sI, pins, σ', H', cls, d, rfl, J, nb, (up.trans up3).trans up4, .inr (.inr (by rw [hs]; exact hh4)), na, os, ag, hno rfl⟩
      first
        | exact wpAny_bind (wpAny_pure (wpAny_bind fin))
        | exact wpAny_bind fin
  · cases f with
    | next =>
      obtain ⟨σ', H', J', q⟩ := hsp
      exact wpAny_execs_nil ⟨σ', H', J'.ofTry ok, q⟩
    | brk =>
      obtain ⟨σ', H', J', q⟩ := hsp
      exact ⟨σ', H', J'.ofTry ok, q⟩
    | cont =>
      obtain ⟨σ', H', J', q⟩ := hsp
      exact ⟨σ', H', J'.ofTry ok, q⟩
    | ret u =>
      obtain ⟨v, σ', H', J', r, q⟩ := hsp
      exact ⟨v, σ', H', J'.ofTry ok, r, q⟩
/-! #### try: body, except x as n: suite, mirrored -/
def okFl : Fl → Bool
  | .rt s => retS s
  | _ => true
/-- mt: does the clause take an error of this class -/
def sTry (i : Nat) (mt : Str → Option Bool) (body suite : M Fl) : M Fl := fun τ => match body τ with
  | .exc c fs τ1 => (match mt c with
    | some true => (match suite (τ1.set i (.val (.exc c fs))) with
      | .ok (f, τ2) => if okFl f = true then .ok (f, τ2.set i .non) else .stuck
      | _ => .stuck)
    | some false => .exc c fs τ1
    | none => .stuck)
  | r => r
/-- what the written part says of the clause's class -/
def Catches (K : PySem.W.Frag) (G : Gx) (c : Value) (mt : Str → Option Bool) : Prop := ∀ x C b, mt x = some b → G.cls x = some C → PySem.W.exmOne K (.ref C) c = some b
theorem Rl.unset (r : Rl F Φ H σ τ tm) (qt : Quiet tm) (i : Nat) : Rl F Φ H (σ.set i none) (τ.set i .non) tm := by
  have h := r.wiped qt [i]
  have e1 : wipe σ [i] = σ.set i none := rfl
  have e2 : wipeT [i] τ = τ.set i .non := rfl
  rw [e1, e2] at h
  exact h
theorem sm_try (i : Nat) {x n : Str} {c : Value} {b₀ : Stmt} {body suite : List Stmt} {np pos pos' : Pos} {mb ms : M Fl} {mt : Str → Option Bool} (ft : Fits X F W) (hex : X.ex = []) (hs : X.stack = X.env :: X.outer) (hf : X.env.frame = some X.env.locals) (hc : Names X x c) (ct : Catches X.K F.G c mt)
    (hb : ∀ (W : WX) (pn : List (Addr × Obj)) (xe : Value → Shared → Prop), Fits (X.tr pn xe) F W → BlM (X.tr pn xe) F W body mb)
    (hsu : ∀ (a : Addr) (pn : List (Addr × Obj)), BlM (X.suite a pn) F W0 (b₀ :: suite) ms) (hi : X.N[i]? = some n := by rfl) (hln : X.env.kindOf n = some .local := by rfl) :
    SM X F W (.Try body [.ExceptHandler (some (.Name x np)) (some n) (b₀ :: suite) pos'] [] [] pos) (sTry i mt mb ms) := by
  refine PS.imp (ps_try_keep hex hs hf ft.nd hi hln hc ft.tk (fun W pn xe tk po => hb W pn xe ⟨ft.calm, ft.nd, ft.K, tk, po⟩) hsu) fun D σ H ⟨Φ, τ, tm, qt, r, h⟩ => ?_
  refine ⟨Φ, τ, tm, qt, r, ?_⟩
  unfold sTry at h
  cases e : mb τ with
  | ok p => rw [e] at h; exact h
  | stuck => rw [e] at h; exact h
  | exc cn fs τ1 =>
    rw [e] at h
    simp only at h
    intro cls d σ1 H1 Φ1 r1 xr
    obtain ⟨C, gc, rfl, xf⟩ := xr
    cases q : mt cn with
    | none => rw [q] at h; exact h.elim
    | some b =>
      rw [q] at h
      refine ⟨b, ct cn C b q gc, fun hb => ⟨C, rfl, fun a ha => ?_⟩, fun hb => ?_⟩
      · subst hb
        simp only at h
        have r2 := r1.within (o := exn a C d) ha
        have fz : Fz F.G (upd Φ1 a (exn a C d)) (.ref a) (.exc cn fs) := by
          rcases xf with ⟨rfl, rfl⟩ | ⟨dd, vs, rfl, e1, e2⟩
          · exact .exc0 upd_same gc
          · have l := le_upd (o := exn a C (some dd)) (r1.fre ha)
            exact .exc1 upd_same gc (l _ _ e1) (FzF.le l e2)
        have r3 := (r2.val fz).store (by trivial) qt i
        refine ⟨_, _, tm, qt, r3, ?_⟩
        refine (show Wp F W0 tm (ms (τ1.set i (.val (.exc cn fs)))) _ from ?_)
        cases e2 : ms (τ1.set i (.val (.exc cn fs))) with
        | stuck => simp only [e2] at h; exact h
        | exc c2 fs2 τ2 => simp only [e2] at h; exact h.elim
        | ok p =>
          obtain ⟨f, τ2⟩ := p
          simp only [e2] at h
          cases f with
          | nx => exact fun σ' H' Φ' r' => h _ _ _ (r'.unset qt i)
          | bk => exact fun σ' H' Φ' r' => h _ _ _ (r'.unset qt i)
          | ct => exact fun σ' H' Φ' r' => h _ _ _ (r'.unset qt i)
          | rt s =>
            cases q : retS s with
            | false => simp only [okFl, q, Bool.false_eq_true, if_false] at h; exact h.elim
            | true =>
              simp only [okFl, q, if_true] at h
              refine fun v σ' H' Φ' r' => h v (σ'.set i none) H' Φ' (r'.unset (fun p hp => ?_) i)
              rcases List.mem_cons.mp hp with z | z
              · rw [z]
                cases s <;> first | trivial | cases q
              · exact qt p z
      · subst hb
        exact h (.ref C) d σ1 H1 Φ1 r1 ⟨C, gc, rfl, xf⟩
end
end Mi

/-! ### M12: isinstance, attributes -/
namespace Mi
open PySem PySem.Spec PyProof.Rows L2

/-- what the written part says of the class of instances, of errors -/
structure InsI (K : PySem.W.Frag) (C : Addr) : Prop where
  cl : Cls K C
  ha : PySem.W.findIn K (.ref C) "__class__" = some (some (.builtin "object.__class__"))
  hn : PySem.W.specialIn K (.builtin "object.__class__") "__get__" = some (some (.builtin "getset_descriptor.__get__"))
  htk : PySem.W.takesIn K (.builtin "object.__class__") = some true
  hm : PySem.W.mroIn K C (.type "object") = some true
structure ExcI (K : PySem.W.Frag) (C : Addr) : Prop where
  hcl : (PySem.W.clsIn K C).isSome = true
  hga : PySem.W.findIn K (.ref C) "__getattribute__" = some (some (.builtin "BaseException.__getattribute__"))
  hgt : PySem.W.findIn K (.ref C) "__getattr__" = some none
  hsub : PySem.W.subIn K (.ref C) (.type "BaseException") = some true
  ha : PySem.W.findIn K (.ref C) "__class__" = some (some (.builtin "object.__class__"))
  hn : PySem.W.specialIn K (.builtin "object.__class__") "__get__" = some (some (.builtin "getset_descriptor.__get__"))
  htk : PySem.W.takesIn K (.builtin "object.__class__") = some true
  hm : PySem.W.mroIn K C (.type "object") = some true
  hd : PySem.W.hasDictIn K C = true
inductive TyE (K : PySem.W.Frag) (H : Hp) : V → Value → Prop where
  | base {x : V} {t : Value} (h : TyX K H x t) : TyE K H x t
  | exc0 {a C : Addr} (h : H a = some (exn a C none)) (e : ExcI K C) : TyE K H (.ref a) (.ref C)
  | exc1 {a C dd : Addr} {fs : List (Str × V)} (h : H a = some (exn a C (some dd))) (k : H dd = some (.xd fs)) (e : ExcI K C) : TyE K H (.ref a) (.ref C)
section
variable {X : Cx} {pins : List (Addr × Obj)} {σ : L2.St} {H : Hp} {s : Shared}
theorem exn_at {P : Program} {w : World} {h : Heap} {a C : Addr} {d : Option Addr} (hok : HOk P w H h) (e : H a = some (exn a C d)) : ∃ (oe : Obj) (vs : Array Value), h.get? a = some oe ∧ oe.cls = .ref C ∧ oe.dict = d ∧ oe.data = .fields vs := (hok a _ e).1
theorem exn_inst0 {P : Program} {w : World} {h : Heap} {a C : Addr} (hok : HOk P w H h) (e : H a = some (exn a C none)) : ∃ oe, PySem.W.InstAt h a oe C none := by
  obtain ⟨oe, vs, h1, h2, h3, h4⟩ := exn_at hok e
  exact ⟨oe, h1, h2, by unfold PySem.W.notCls; rw [h4] <;> rfl, by rw [h3]; trivial⟩
theorem exn_inst1 {P : Program} {w : World} {h : Heap} {a C dd : Addr} {fs : List (Str × V)} (hok : HOk P w H h) (e : H a = some (exn a C (some dd))) (k : H dd = some (.xd fs)) : ∃ (oe od : Obj) (mA : Str → Option Value), PySem.W.InstAt h a oe C (some od) ∧ (∀ name, PySem.W.lookIn name od = some (mA name)) ∧ ∀ f, RelO (fs.lookup f) (mA f) := by
  obtain ⟨oe, vs, h1, h2, h3, h4⟩ := exn_at hok e
  obtain ⟨mA, hns, hr⟩ := hok dd _ k
  obtain ⟨od, ho, hl⟩ := lookIn_ns hns
  exact ⟨oe, od, mA, ⟨h1, h2, by unfold PySem.W.notCls; rw [h4] <;> rfl, by rw [h3]; exact ho⟩, hl, hr⟩
theorem kit_ofE {x : V} {u t : Value} (I : Inv X pins σ H s) (rx : RelV x u) (ty : TyE X.K H x t) : ∃ P : Heap → Prop, PySem.W.KitX X.K u t P ∧ P s.heap ∧ u ≠ .builtin "__main__.__loader__#opaque" := by
  cases ty with
  | base h => exact kit_of I rx h
  | @exc0 a C h e =>
    cases (show u = Value.ref a from rx)
    obtain ⟨oe, J⟩ := exn_inst0 I.hok h
    exact ⟨_, PySem.W.kitx_exc e.hcl e.hga e.hgt e.hsub e.ha e.hn e.htk e.hm, J, fun z => nomatch z⟩
  | @exc1 a C dd fs h k e =>
    cases (show u = Value.ref a from rx)
    obtain ⟨oe, od, _, J, _⟩ := exn_inst1 I.hok h k
    exact ⟨_, PySem.W.kitx_exc e.hcl e.hga e.hgt e.hsub e.ha e.hn e.htk e.hm, J, fun z => nomatch z⟩
def rIsE (K : PySem.W.Frag) : List V → Hp → VK → Prop := fun xs H Q => ∃ (x : V) (t : Value) (b : Bool), TyE K H x t ∧
  ((∃ c u, xs = [x, c] ∧ ClsV c u ∧ PySem.W.kitOne K t u = some b) ∨ (∃ tp cs us, xs = [x, .ref tp] ∧ SqT K H tp cs ∧ Paired ClsV cs us ∧ PySem.W.kitAny K t us = some b)) ∧ Q (.bl b) H
theorem call_isE : CallR X (.builtin "isinstance") (rIsE X.K) := by
  intro pins s σ H xs us Q I r h
  obtain ⟨x, t, b, ty, h, q⟩ := h
  rcases h with ⟨c, u, rfl, k, e⟩ | ⟨tp, cs, ws, rfl, hT, k, e⟩
  · obtain ⟨u1, u2, rfl, r1, r2⟩ := vals2 r
    have e2 := k.eq r2
    subst e2
    obtain ⟨P, Z, p, hx⟩ := kit_ofE I r1 ty
    exact PySem.W.kia_one Z I.kIn p e hx fun tk => ⟨.bl b, H, I.tok tk, rfl, q⟩
  · obtain ⟨u1, u2, rfl, r1, r2⟩ := vals2 r
    cases (show u2 = Value.ref tp from r2)
    obtain ⟨P, Z, p, hx⟩ := kit_ofE I r1 ty
    obtain ⟨its, rv, ⟨o, h1, h2, n, h3⟩, _⟩ := I.tuple hT
    have e3 := ClsV.all k rv
    subst e3
    obtain ⟨oc, od, dt, sl⟩ := o
    simp only at h2 h3
    subst h2 h3
    exact PySem.W.kia_tup Z I.kIn p h1 e hx fun tk => ⟨.bl b, H, I.tok tk, rfl, q⟩
end
/-- the kinds of values that isinstance tells apart -/
inductive Tg where
  | bt (n : String) | ins (c : Str) | exc (c : Str)
inductive Cl where
  | bt (n : String) | own (c : Str)
def tagOf : D → Option Tg
  | .non => some (.bt "NoneType")
  | .bl _ => some (.bt "bool")
  | .int _ => some (.bt "int")
  | .str _ => some (.bt "str")
  | .lst _ => some (.bt "list")
  | .tup _ => some (.bt "tuple")
  | .dic _ => some (.bt "dict")
  | .ins c _ => some (.ins c)
  | .exc c _ => some (.exc c)
  | _ => none
def clOf : D → Option Cl
  | .ty n => some (.bt n)
  | .cls c => some (.own c)
  | _ => none
def clsOf : List D → Option (List Cl)
  | [] => some []
  | d :: ds => match clOf d, clsOf ds with
    | some c, some cs => some (c :: cs)
    | _, _ => none
abbrev IsT := Tg → Cl → Option Bool
def isAny (tb : IsT) (t : Tg) : List Cl → Option Bool
  | [] => some false
  | c :: cs => match tb t c with
    | some true => some true
    | some false => isAny tb t cs
    | none => none
def fIsi (tb : IsT) : List D → Option S
  | [x, .tup cs] => match tagOf x, clsOf cs with
    | some t, some (c :: l) => (isAny tb t (c :: l)).map fun b => .val (.bl b)
    | _, _ => none
  | [x, c] => match tagOf x, clOf c with
    | some t, some u => (tb t u).map fun b => .val (.bl b)
    | _, _ => none
  | _ => none
inductive TgV (G : Gx) (K : PySem.W.Frag) : Tg → Value → Prop where
  | bt (n : String) : TgV G K (.bt n) (.type n)
  | ins {c : Str} {C : Addr} (h : G.cls c = some C) : TgV G K (.ins c) (.ref C)
  | exc {c : Str} {C : Addr} (h : G.cls c = some C) : TgV G K (.exc c) (.ref C)
inductive ClV (G : Gx) : Cl → Value → Prop where
  | bt (n : String) : ClV G (.bt n) (.type n)
  | own {c : Str} {C : Addr} (h : G.cls c = some C) : ClV G (.own c) (.ref C)
/-- the table is right -/
structure IsOk (K : PySem.W.Frag) (G : Gx) (tb : IsT) : Prop where
  ok : ∀ t u b vt vu, tb t u = some b → TgV G K t vt → ClV G u vu → PySem.W.kitOne K vt vu = some b
  ins : ∀ c u b C, tb (.ins c) u = some b → G.cls c = some C → InsI K C
  exc : ∀ c u b C, tb (.exc c) u = some b → G.cls c = some C → ExcI K C
section
variable {X : Cx} {F : Fm} {W : WX} {Φ Φ' H H' : Hp} {σ : L2.St} {τ τ' : List S} {tm : Env1} {tb : IsT}
theorem cl_v {v : V} {d : D} {c : Cl} (h : Rdv F Φ H v d) (e : clOf d = some c) : ∃ u, ClsV v u ∧ ClV F.G c u := by
  rcases h with h | ⟨a, o, _, e2, _⟩
  · cases h <;> first | (cases e; done) | skip
    · cases e; exact ⟨_, .ty _, .bt _⟩
    · rename_i g
      cases e; exact ⟨_, .own _, .own g⟩
  · subst e2
    cases o <;> cases e
theorem ty_v {v : V} {d : D} {t : Tg} (ok : IsOk X.K F.G tb) (hK : X.K = F.G.K) (l : Le Φ H) (h : Rdv F Φ H v d) (e : tagOf d = some t) (some_ : ∃ u b, tb t u = some b) : ∃ w, TyE X.K H v w ∧ TgV F.G X.K t w := by
  obtain ⟨u, b, ht⟩ := some_
  rcases h with h | ⟨a, o, e1, e2, q⟩
  · cases h with
    | non => cases e; exact ⟨_, .base (.base .non), .bt _⟩
    | bl b => cases e; exact ⟨_, .base (.base (.bl b)), .bt _⟩
    | int i => cases e; exact ⟨_, .base (.base (.int i)), .bt _⟩
    | str x => cases e; exact ⟨_, .base (.base (.str x)), .bt _⟩
    | ty n => cases e
    | lst h t => cases e; exact ⟨_, .base (.base (.lst (l _ _ h))), .bt _⟩
    | scr h t => cases e
    | tup h t =>
      cases e
      rcases SqT.le h l with (h | ⟨o, h⟩) | ⟨o, its, n, h, hc, _⟩
      · exact ⟨_, .base (.base (.tup h)), .bt _⟩
      · exact ⟨_, .base (.fTuple h), .bt _⟩
      · rw [← hK] at h
        exact ⟨_, .base (.kTuple h hc), .bt _⟩
    | dic h t => cases e; exact ⟨_, .base (.base (.dK (l _ _ h))), .bt _⟩
    | ins h g t =>
      cases e
      have f := ok.ins _ _ _ _ ht g
      exact ⟨_, .base (.base (.ins (l _ _ h) f.cl f.ha f.hn f.htk f.hm)), .ins g⟩
    | exc0 h g =>
      cases e
      exact ⟨_, .exc0 (l _ _ h) (ok.exc _ _ _ _ ht g), .exc g⟩
    | exc1 h g k t =>
      cases e
      exact ⟨_, .exc1 (l _ _ h) (l _ _ k) (ok.exc _ _ _ _ ht g), .exc g⟩
    | cls g => cases e
    | fn g => cases e
  · subst e1 e2
    cases o with
    | lst xs =>
      cases e
      obtain ⟨vs, q1, _⟩ := q
      exact ⟨_, .base (.base (.lst q1)), .bt _⟩
    | ins c fs =>
      cases e
      obtain ⟨C, dx, vs, q1, g, _⟩ := q
      have f := ok.ins _ _ _ _ ht g
      exact ⟨_, .base (.base (.ins q1 f.cl f.ha f.hn f.htk f.hm)), .ins g⟩
theorem cls_v {G : Gx} {Φ H : Hp} (hF : F.G = G) : ∀ {vs : List V} {ds : List D} {l : List Cl}, FzL G Φ vs ds → clsOf ds = some l → ∃ us, Paired ClsV vs us ∧ Paired (ClV G) l us
  | _, [], _, .nil, e => by cases e; exact ⟨[], .nil, .nil⟩
  | _, d :: ds, _, .cons h t, e => by
    unfold clsOf at e
    split at e
    · rename_i c cs e1 e2
      cases e
      subst hF
      obtain ⟨u, q1, q2⟩ := cl_v (H := Φ) (.inl h) e1
      obtain ⟨us, q3, q4⟩ := cls_v rfl t e2 (H := Φ)
      exact ⟨u :: us, .cons q1 q3, .cons q2 q4⟩
    · cases e
theorem any_v (ok : IsOk X.K F.G tb) {t : Tg} {w : Value} (tv : TgV F.G X.K t w) : ∀ {l : List Cl} {us : List Value} {b : Bool}, Paired (ClV F.G) l us → isAny tb t l = some b → PySem.W.kitAny X.K w us = some b
  | [], _, _, .nil, e => by cases e; rfl
  | c :: cs, _, b, .cons h r, e => by
    unfold isAny at e
    unfold PySem.W.kitAny
    cases q : tb t c with
    | none => rw [q] at e; cases e
    | some k =>
      rw [q] at e
      rw [ok.ok _ _ _ _ _ q tv h]
      cases k with
      | true => exact e
      | false => exact any_v ok tv r e
theorem c_isi (ok : IsOk X.K F.G tb) (hK : X.K = F.G.K) : CaS F (fIsi tb) (rIsE X.K) := by
  intro Φ H σ τ tm vs ds s Q rl hd hf k
  unfold fIsi at hf
  split at hf
  · rename_i x cs
    split at hf
    · rename_i t c l e1 e2
      obtain ⟨b, e3, rfl⟩ := Option.map_eq_some_iff.mp hf
      obtain ⟨v, w, rfl, h1, h2⟩ := rd2 hd
      obtain ⟨a, ws, rfl, e5, q⟩ := h2.tup rl.le
      have so : ∃ u b, tb t u = some b := by
        unfold isAny at e3
        cases q : tb t c with
        | none => rw [q] at e3; cases e3
        | some k => exact ⟨c, k, q⟩
      obtain ⟨tv, q1, q2⟩ := ty_v ok hK rl.le h1 e1 so
      obtain ⟨us, q3, q4⟩ := cls_v (F := F) rfl q e2 (H := H)
      exact ⟨v, tv, b, q1, .inr ⟨a, ws, us, rfl, by rw [hK]; exact e5, q3, any_v ok q2 q4 e3⟩, k _ _ _ (rl.val (.bl b))⟩
    · cases hf
  · rename_i x c hc
    split at hf
    · rename_i t u e1 e2
      obtain ⟨b, e3, rfl⟩ := Option.map_eq_some_iff.mp hf
      obtain ⟨v, w, rfl, h1, h2⟩ := rd2 hd
      obtain ⟨tv, q1, q2⟩ := ty_v ok hK rl.le h1 e1 ⟨_, _, e3⟩
      obtain ⟨cu, q3, q4⟩ := cl_v h2 e2
      exact ⟨v, tv, b, q1, .inl ⟨w, cu, rfl, q3, ok.ok _ _ _ _ _ e3 q2 q4⟩, k _ _ _ (rl.val (.bl b))⟩
    · cases hf
  · cases hf
/-! #### attributes -/
/-- the field f of instances of some classes and of errors of some -/
def fldD (f : Str) (is es : List Str) : D → Option S
  | .ins c fs => if is.contains c = true then (fs.lookup f).map .val else none
  | .exc c fs => if es.contains c = true then (fs.lookup f).map .val else none
  | _ => none
structure FldOk (K : PySem.W.Frag) (G : Gx) (f : Str) (is es : List Str) : Prop where
  ins : ∀ c ∈ is, ∀ C, G.cls c = some C → Cls K C ∧ NoAttr K C f
  exc : ∀ c ∈ es, ∀ C, G.cls c = some C → ExcI K C ∧ PySem.W.findIn K (.ref C) f = some none
def tFldE (K : PySem.W.Frag) (te : L2.TE) (f : Str) : L2.TE := fun σ H Q => te σ H fun x H1 => (∃ a C dx fs v, x = .ref a ∧ H1 a = some (.ins C dx fs) ∧ Cls K C ∧ NoAttr K C f ∧ fs.lookup f = some v ∧ Q v H1) ∨
  ∃ (a C dd : Addr) (fs : List (Str × V)) (v : V), x = .ref a ∧ H1 a = some (exn a C (some dd)) ∧ H1 dd = some (.xd fs) ∧ ExcI K C ∧ PySem.W.findIn K (.ref C) f = some none ∧ fs.lookup f = some v ∧ Q v H1
theorem pe_fldE {e : Expr} {f : Str} {te : L2.TE} {pos : Pos} (he : PE X e te) (hb : attributeBase e f X.env (eval e X.env) = eval e X.env := by rfl) : PE X (.Attribute e f pos) (tFldE X.K te f) := by
  refine ⟨fun pins s σ H Q I h => ?_⟩
  refine attr_of hb (thn (he.run pins s σ H _ I h) fun u s1 hh => ?_)
  obtain ⟨x, H1, I1, rx, q⟩ := hh
  rcases q with ⟨a, C, dx, fs, v, rfl, e1, c, n, l, q⟩ | ⟨a, C, dd, fs, v, rfl, e1, e2, xc, no, l, q⟩
  · obtain rfl : u = Value.ref a := rx
    exact getattr_ok I1 e1 c n l fun u' s' I' ru => ⟨v, H1, I', ru, q⟩
  · obtain rfl : u = Value.ref a := rx
    obtain ⟨oe, od, mA, J, hl, hr⟩ := exn_inst1 I1.hok e1 e2
    obtain ⟨u', hu, ru⟩ := RelO.some_of (v := v) (o := mA f) (by rw [← l]; exact hr f)
    exact PySem.HandSPX.exc_get I1.kIn J xc.hga xc.hgt xc.hsub (PySem.W.findObj_own xc.hd no rfl (by rw [hl, hu])) (handed_of ru) ⟨v, H1, I1.tok _, ru, q⟩
theorem em_fld {e : Expr} {f : Str} {ma : M S} {is es : List Str} {pos : Pos} (fo : FldOk X.K F.G f is es) (he : EM X F W e ma) (hb : attributeBase e f X.env (eval e X.env) = eval e X.env := by rfl) : EM X F W (.Attribute e f pos) (eUn (fldD f is es) ma) := PE.imp (pe_fldE he hb) fun σ H Q ⟨Φ, τ, tm, r, h⟩ => te_go r (Wp.bnd h) fun s τ1 v H1 Φ1 p1 r1 => by
  obtain ⟨d, e1, p2⟩ := Wp.peek (Wp.bnd p1)
  obtain ⟨s', e2, k⟩ := Wp.of p2
  have rd := r1.peek r1.hd e1
  unfold fldD at e2
  split at e2
  · split at e2
    · rename_i c fs hc
      obtain ⟨y, e3, rfl⟩ := Option.map_eq_some_iff.mp e2
      obtain ⟨a, C, dx, ws, rfl, e4, g, q⟩ := rd.ins r1.le
      obtain ⟨z, e5, q2⟩ := FzF.look q e3
      obtain ⟨c1, c2⟩ := fo.ins c (by simpa using hc) C g
      exact .inl ⟨a, C, dx, ws, z, rfl, e4, c1, c2, e5, k _ _ _ (r1.tl.val q2)⟩
    · cases e2
  · split at e2
    · rename_i c fs hc
      obtain ⟨y, e3, rfl⟩ := Option.map_eq_some_iff.mp e2
      rcases rd with rd | ⟨a, o, _, e4, _⟩
      · cases rd with
        | exc0 h g => cases e3
        | exc1 h g k' t =>
          obtain ⟨z, e5, q2⟩ := FzF.look t e3
          obtain ⟨c1, c2⟩ := fo.exc c (by simpa using hc) _ g
          exact .inr ⟨_, _, _, _, z, rfl, r1.le _ _ h, r1.le _ _ k', c1, c2, e5, k _ _ _ (r1.tl.val q2)⟩
      · cases o <;> cases e4
    · cases e2
  · cases e2
end
end Mi

/-! ### M13: names of the module as values, defs in slots called, powers, {} , keywords -/
namespace Mi
open PySem PySem.Spec PyProof.Rows L2

/-- the module's names and the world's defs and classes are the same -/
structure GlobOk (mg : Str → Option Value) (G : Gx) : Prop where
  fn : ∀ x a, G.fn x = some a ↔ mg x = some (.ref a)
  cls : ∀ x a, G.cls x = some a ↔ mg x = some (.ref a)
section
variable {X : Cx} {F : Fm} {W : WX} {Φ Φ' H H' : Hp} {σ : L2.St} {τ τ' : List S} {tm : Env1} {x : Str} {pos p : Pos}
theorem em_gfn (go : GlobOk X.mg F.G) {f : Addr} (hm : X.mg x = some (.ref f)) (hg : Gl X x := by rfl) (hd : (x == ("__debug__" : Str)) = false := by decide) : EM X F W (.Name x pos) (eLit (.fn x)) :=
  PE.imp (pe_glob (v := .ref f) hg hm rfl hd) fun σ H Q ⟨Φ, τ, tm, r, h⟩ => h _ _ _ (r.val (.fn ((go.fn _ _).mpr hm)))
theorem em_gcls (go : GlobOk X.mg F.G) {f : Addr} (hm : X.mg x = some (.ref f)) (hg : Gl X x := by rfl) (hd : (x == ("__debug__" : Str)) = false := by decide) : EM X F W (.Name x pos) (eLit (.cls x)) :=
  PE.imp (pe_glob (v := .ref f) hg hm rfl hd) fun σ H Q ⟨Φ, τ, tm, r, h⟩ => h _ _ _ (r.val (.cls ((go.cls _ _).mpr hm)))
theorem em_gty {T : String} (hm : X.mg x = none) (hv : bootBuiltins x = some (.type T) := by decide +kernel) (hg : Gl X x := by rfl) (hn : x ≠ "__name__" := by decide) (hd : (x == ("__debug__" : Str)) = false := by decide) : EM X F W (.Name x pos) (eLit (.ty T)) :=
  PE.imp (pe_bltn (v := .ty T) hg hm hv rfl hn hd) fun σ H Q ⟨Φ, τ, tm, r, h⟩ => h _ _ _ (r.val (.ty T))

/-! #### powers -/
def powFits (i j : Int) : Bool := decide (0 ≤ j) && decide ((Builtin.Int.intBits i : Int) * j ≤ 2 ^ 27)
def fPow : D → D → Option S
  | .int i, .int j => if powFits i j = true then sInt (i ^ j.toNat) else none
  | _, _ => none
def CPowW (i j : Int) : Prop := 0 ≤ j ∧ (Builtin.Int.intBits i : Int) * j ≤ 2 ^ 27
theorem op_powW : OpR X (binaryOp .Pow) (rI CPowW fun i j => .int (i ^ j.toNat)) := opI fun _ _ _ _ _ _ _ hc q => pow_int hc.1 hc.2 q
theorem o_pow : OpS F fPow (rI CPowW fun i j => .int (i ^ j.toNat)) := o_int fun d e s h => by
  unfold fPow at h
  split at h
  · split at h
    · rename_i hz
      obtain ⟨h1, h2⟩ := Bool.and_eq_true_iff.mp hz
      cases h; exact ⟨_, _, rfl, rfl, ⟨of_decide_eq_true h1, of_decide_eq_true h2⟩, rfl⟩
    · cases h
  · cases h

/-! #### {} -/
theorem em_dic : EM X F W (.Dict [] [] pos) (eLit (.dic [])) := PE.imp pe_dnewK fun σ H Q ⟨Φ, τ, tm, r, h⟩ a ha => by
  have r2 := r.within (o := .dK []) ha
  exact h _ _ _ (r2.val (.dic upd_same .nil))

/-! #### a def that stands in a slot, called -/
variable {k i : Nat} {a : Expr} {es : List Expr} {ms : M (List S)}
theorem pe_slotfn {t : L2.TA} (hr : Room k X.A) (tk : Takes X W) (hN : X.N[i]? = some x) (hv : Vis X.env.scope x) (ha : PA X (a :: es) t) (hd : (x == ("__debug__" : Str)) = false := by decide) (hcd : (x == ("__classdict__" : Str)) = false := by decide)
    (he : starEach (a :: es) X.env = (false, eval a X.env) :: starEach es X.env := by rfl) (hpl : (backTo pos (starEach es X.env)).any (·.1) = false := by rfl) :
    PE X (.Call (.Name x p) (a :: es) [] pos) (fun σ H Q => ∃ f fd ps sp, FnOk X.prog X.w X.K X.mg X.base (L2.CX X.prog X.w) k f fd ps sp ∧ PySem.W.keepIn X.K (.ref f) = true ∧ Binds X.K fd ps [] ∧ σ[i]? = some (some (.ref f)) ∧ t σ H fun vs H1 => sp vs H1 Q (WE W σ)) := by
  refine ⟨fun pins s σ H Q I ⟨f, fd, ps, sp, Ok, kp, b, hs, ht⟩ => ?_⟩
  refine wpAny_Call_Name_kw (thn ((pe_var (pos := p) hN hv hd hcd).run pins s σ H (fun v H1 => v = .ref f ∧ H1 = H) I ⟨.ref f, hs, rfl, rfl⟩) fun u s1 ⟨v, H1, I1, r1, q1⟩ => ?_)
  obtain ⟨ev, eH⟩ := q1
  subst ev eH
  cases r1
  refine PySem.W.callWith_K (h₀ := X.base) I.ok.mod.kin kp (thn (ha.run pos pins s1 σ _ _ I1 ht) fun us s2 ⟨vs, H2, I2, r, q⟩ => ⟨I2.kIn, ?_⟩) he hpl
  exact run_fnSD (E := WE W) Ok hr b .nil (passAt tk σ) I2 r (by rw [List.append_nil]; exact q)
def eCallF (i : Nat) (tab : Str → Option Fn) (ms : M (List S)) : M S := fun τ => match τ[i]? with
  | some (.val (.fn g)) => (match tab g with
    | some mf => eCallV mf ms τ
    | none => .stuck)
  | _ => .stuck
theorem em_callF {n : Nat} {tab : Str → Option Fn} (ft : Fits X F W) (go : GlobOk X.mg F.G) (hr : Room k X.A) (df : ∀ g mf, tab g = some mf → DefOk X.prog X.w X.K X.mg X.base F.G k g n mf) (i : Nat) (ha : LM X F W (a :: es) ms) (hN : X.N[i]? = some x := by rfl) (hv : Vis X.env.scope x := by first | exact Or.inl rfl | exact Or.inr (Or.inl rfl) | exact Or.inr (Or.inr rfl)) (hd : (x == ("__debug__" : Str)) = false := by decide) (hcd : (x == ("__classdict__" : Str)) = false := by decide)
    (he : starEach (a :: es) X.env = (false, eval a X.env) :: starEach es X.env := by rfl) (hpl : (backTo pos (starEach es X.env)).any (·.1) = false := by rfl) :
    EM X F W (.Call (.Name x p) (a :: es) [] pos) (eCallF i tab ms) := by
  refine PE.imp (pe_slotfn (i := i) hr ft.tk hN hv ha hd hcd he hpl) fun σ H Q h => ?_
  obtain ⟨Φ, τ, tm, r, h⟩ := h
  unfold eCallF at h
  cases e : τ[i]? with
  | none => rw [e] at h; exact h.elim
  | some s =>
    cases s with
    | val d =>
      cases d with
      | fn g =>
        simp only [e] at h
        cases q : tab g with
        | none => rw [q] at h; exact h.elim
        | some mf =>
          rw [q] at h
          simp only at h
          have dg := df g mf q
          obtain ⟨f, fd, ps, Ok, gm, kp, b⟩ := dg.ex
          obtain ⟨v, e1, _, x, e2, fz⟩ := r.at e
          subst e2
          cases fz with
          | fn hf =>
            have := (go.fn _ _).mp hf
            rw [gm] at this
            cases this
            exact ⟨_, fd, ps, _, Ok, kp, b, e1, t_callV dg.pr (fun ds z => by simpa using dg.ar _ z) ⟨Φ, τ, tm, r, h⟩⟩
      | _ => simp only [e] at h; exact h.elim
    | _ => simp only [e] at h; exact h.elim

/-! #### keywords -/
abbrev KM (X : Cx) (F : Fm) (W : WX) (kws : List Keyword) (m : M (List S)) : Prop := PK X kws (TLm F W m)
theorem PK.imp {X : Cx} {e : List Keyword} {t t' : L2.TA} (h : PK X e t) (i : ∀ σ H Q, t' σ H Q → t σ H Q) : PK X e t' := ⟨fun pos pins s σ H Q I q => h.run pos pins s σ H Q I (i _ _ _ q)⟩
theorem km_nil : KM X F W [] lNil := PK.imp pk_nil fun σ H Q ⟨Φ, τ, tm, rl, h⟩ => h [] H Φ rfl rl
theorem km_cons {nm : Option Str} {kpos : Pos} {kws : List Keyword} {ma : M S} (ha : EM X F W a ma) (hr : KM X F W kws ms) : KM X F W (⟨nm, a, kpos⟩ :: kws) (lCons ma ms) :=
  PK.imp (pk_cons ha hr) fun σ H Q ⟨Φ, τ, tm, rl, h⟩ => te_go rl h.bnd fun s τ1 v H1 Φ1 p1 r1 => tl_go r1 p1.bnd fun ss τ2 vs H2 Φ2 p2 l r2 => p2 (v :: vs) H2 Φ2 (by simp [l]) (r2.air (.perm (by
    show ((vs.map some).zip ss ++ ((some v, s) :: tm)).Perm ((some v, s) :: ((vs.map some).zip ss ++ tm))
    exact List.perm_middle)))
/-- the values in the parameters' order -/
def pick {α : Type} (z : α) (ix : List Nat) (l : List α) : List α := ix.map fun i => l.getD i z
structure KwOk (P : Program) (w : World) (K : PySem.W.Frag) (mg : Str → Option Value) (base : Heap) (G : Gx) (k : Nat) (x : Str) (n : Nat) (ks : List Str) (ix : List Nat) (mf : Fn) : Prop where
  ex : ∃ f fd ps, FnOk P w K mg base (L2.CX P w) k f fd ps (spM G n mf) ∧ mg x = some (.ref f) ∧ PySem.W.keepIn K (.ref f) = true ∧ ∀ (s : Shared) (ws : List Value), ws.length = ks.length → BindsTo s fd ⟨[], ks.zip ws⟩ (ps.zip (pick .none ix ws))
  pr : Proper mf
  ar : ∀ ss, mf ss ≠ .stuck → ss.length = n
  len : ix.length = n
def eCallK (ix : List Nat) (nk : Nat) (mf : Fn) (ms : M (List S)) : M S := M.bnd ms fun ss => M.bnd (takeAll ss) fun ds => fun τ => if ds.length = nk then (match mf ((pick .non ix ds).map S.val) with
  | .ok (r, _) => .ok (r, τ)
  | .exc c fs _ => .exc c fs τ
  | .stuck => .stuck) else .stuck
theorem pick_vals : ∀ {ix : List Nat} {vs : List V} {us : List Value}, Vals vs us → Vals (pick .non ix vs) (pick .none ix us)
  | [], _, _, _ => .nil
  | i :: ix, vs, us, r => by
    refine .cons ?_ (pick_vals (ix := ix) r)
    have : ∀ {i : Nat} {vs : List V} {us : List Value}, Vals vs us → L2.RelV (vs.getD i .non) (us.getD i .none) := fun {i vs us} r => by
      induction r generalizing i with
      | nil => exact (show L2.RelV V.non Value.none from rfl)
      | cons h t ih =>
        cases i with
        | zero => simpa using h
        | succ i => simpa using ih
    exact this r
theorem pick_fz {G : Gx} : ∀ {ix : List Nat} {vs : List V} {ds : List D}, FzL G Φ vs ds → FzL G Φ (pick .non ix vs) (pick .non ix ds)
  | [], _, _, _ => .nil
  | i :: ix, vs, ds, r => by
    refine .cons ?_ (pick_fz (ix := ix) r)
    have : ∀ {i : Nat} {vs : List V} {ds : List D}, FzL G Φ vs ds → Fz G Φ (vs.getD i .non) (ds.getD i .non) := fun {i vs ds} => by
      induction ds generalizing i vs with
      | nil => intro r; cases r; simpa using Fz.non
      | cons d ds ih =>
        intro r
        cases r with
        | cons h t =>
          cases i with
          | zero => simpa using h
          | succ i => simpa using ih t
    exact this r
theorem pe_kwonly {kws : List Keyword} {t : L2.TA} {f : Addr} {fd : FuncData} {ps ks : List Str} {ix : List Nat} {sp : Sp} (Ok : FnOk X.prog X.w X.K X.mg X.base (L2.CX X.prog X.w) k f fd ps sp) (hr : Room k X.A) (tk : Takes X W) (hg : Gl X x) (hm : X.mg x = some (.ref f)) (kp : PySem.W.keepIn X.K (.ref f) = true)
    (hb : ∀ (s : Shared) (ws : List Value), ws.length = ks.length → BindsTo s fd ⟨[], ks.zip ws⟩ (ps.zip (pick .none ix ws))) (hkw : PK X kws t) (hall : (backToKw pos (keywordEach kws X.env)).all (·.1.isSome) = true := by rfl) (hks : (backToKw pos (keywordEach kws X.env)).filterMap (·.1) = ks := by rfl)
    (hdb : (x == ("__debug__" : Str)) = false := by decide) (hpl : ((backTo pos (starEach [] X.env)).any (·.1) || (backToKw pos (keywordEach kws X.env)).any (·.1.isNone)) = false := by rfl) :
    PE X (.Call (.Name x p) [] kws pos) (fun σ H Q => t σ H fun zs H1 => zs.length = ks.length ∧ sp (pick .non ix zs) H1 Q (WE W σ)) := by
  refine ⟨fun pins s σ H Q I h => ?_⟩
  refine wpAny_Call_Name_kw (ld_glob I hg hm ?_ hdb)
  refine PySem.W.callWith_KW0 (h₀ := X.base) I.ok.mod.kin kp hall ?_ hpl
  refine thn (hkw.run pos pins s σ H _ I h) fun ws s2 ⟨zs, H2, I2, rz, hl0, q2⟩ => ⟨I2.kIn, ?_⟩
  rw [hks]
  have r2 := pick_vals (ix := ix) rz
  have hl : (pick .none ix ws).length = ps.length := by rw [← r2.length]; exact Ok.len _ _ _ _ q2
  refine wpAny_call (codeAny_mono (Ok.run X.A X.stack s2 H2 ⟨[], ks.zip ws⟩ (pick .none ix ws) (pick .non ix zs) Q (WE W σ) hr I2.env0 (hb s2 ws (by rw [← rz.length]; exact hl0)) r2 q2) fun r s' hq => ?_)
  cases r with
  | error e => exact passAt tk σ pins H2 s2 e s' I2 hq
  | ok fl =>
    cases fl with
    | ret u => exact I2.after hq
    | next => exact False.elim hq
    | brk => exact False.elim hq
    | cont => exact False.elim hq
theorem t_callK {mf : Fn} {n nk : Nat} {ix : List Nat} {Q : VK} (pr : Proper mf) (hn : ∀ ss, mf ss ≠ .stuck → ss.length = n) (h : TEm F W (eCallK ix nk mf ms) σ H Q) : TLm F W ms σ H fun vs H1 => vs.length = nk ∧ spM F.G n mf (pick .non ix vs) H1 Q (WE W σ) := by
  obtain ⟨Φ, τ, tm, rl, h⟩ := h
  refine tl_go rl h.bnd fun ss τ1 vs H1 Φ1 p1 l r1 => ?_
  obtain ⟨ds, τ2, e, p2⟩ := takeAll_cases (Wp.bnd p1)
  obtain ⟨Φ2, r2, q⟩ := Rl.takenAll l r1 e
  have lq := q.length
  split at p2
  case isFalse => exact p2.elim
  rename_i hz
  refine ⟨by rw [lq]; exact hz, ?_⟩
  have ne : mf ((pick .non ix ds).map S.val) ≠ .stuck := fun z => by
    rw [z] at p2
    exact p2
  refine ⟨Φ2, fun _ => none, (pick .non ix ds).map S.val, hn _ ne, r2.enter0 (pick_fz q), fun s hs => ?_, ?_⟩
  · obtain ⟨d, _, e⟩ := List.mem_map.mp hs
    rw [← e]; trivial
  · cases hm : mf ((pick .non ix ds).map S.val) with
    | stuck => exact ne hm
    | ok p =>
      obtain ⟨r, out⟩ := p
      rw [hm] at p2
      intro v H' Φ' c
      have r3 := r2.after0 c fun _ => rfl
      exact p2 v H' Φ' (r3.handed (H := H1) (P := fun _ => none) r2.dom (fun p hp a ha => r2.there p hp a ha) c.hd (pr _ _ _ hm))
    | exc c fs out =>
      rw [hm] at p2
      intro cls d H' Φ' c1 x
      have r3 := r2.after0 c1 fun _ => rfl
      exact p2 cls d σ H' Φ' r3 x
theorem em_callK {n : Nat} {kws : List Keyword} {mf : Fn} {ks : List Str} {ix : List Nat} (ft : Fits X F W) (hr : Room k X.A) (df : KwOk X.prog X.w X.K X.mg X.base F.G k x n ks ix mf) (ha : KM X F W kws ms) (hall : (backToKw pos (keywordEach kws X.env)).all (·.1.isSome) = true := by rfl) (hks : (backToKw pos (keywordEach kws X.env)).filterMap (·.1) = ks := by rfl)
    (hg : Gl X x := by rfl) (hdb : (x == ("__debug__" : Str)) = false := by decide) (hpl : ((backTo pos (starEach [] X.env)).any (·.1) || (backToKw pos (keywordEach kws X.env)).any (·.1.isNone)) = false := by rfl) :
    EM X F W (.Call (.Name x p) [] kws pos) (eCallK ix ks.length mf ms) := by
  obtain ⟨f, fd, ps, Ok, gm, kp, b⟩ := df.ex
  exact PE.imp (pe_kwonly Ok hr ft.tk hg gm kp b ha hall hks hdb hpl) fun σ H Q h => t_callK df.pr df.ar h
end
end Mi

/-! ### M14: g(lambda: body) -/
namespace Mi
open PySem PySem.Spec PyProof.Rows L2
open LamX (CodeO TabB LamS lamEnv lamCx lam_start2 ExtN Tabs inv_table codeO_ne among_app)

/-- what a body without parameters comes to -/
inductive Th where
  | ok (d : D) | exc (c : Str) (fs : List (Str × D)) | stuck
/-- plain slots alone -/
def only (τ : List S) : List S := τ.map fun s => match s with
  | .val d => .val d
  | _ => .non
def thk (ml : M S) (τ : List S) : Th := match M.bnd ml take (only τ) with
  | .ok (d, _) => .ok d
  | .exc c fs _ => .exc c fs
  | .stuck => .stuck
/-- a() where the slot 0 holds the body -/
def eThunk (o : Th) : M S := fun τ => match τ[0]? with
  | some S.raw => (match o with
    | .ok d => .ok (.val d, τ)
    | .exc c fs => .exc c fs τ
    | .stuck => .stuck)
  | _ => .stuck
/-- the def that is handed it, n names -/
def runG (n : Nat) (m : Th → M Fl) : Th → R S := fun o => match m o (S.raw :: List.replicate (n - 1) S.non) with
  | .ok (f, _) => (match f with
    | .nx => .ok (.val .non)
    | .rt s => if retS s = true then .ok s else .stuck
    | _ => .stuck)
  | .exc c fs _ => .exc c fs []
  | .stuck => .stuck
/-- g(lambda: body); cap: the slots that the body reads -/
def eLam (cap : List Nat) (ml : M S) (g : Th → R S) : M S := M.bnd (takeAll (cap.map .ali)) fun _ => fun τ => match g (thk ml τ) with
  | .ok s => .ok (s, τ)
  | .exc c fs _ => .exc c fs τ
  | .stuck => .stuck
section
variable {F : Fm} {W : WX} {Φ Φ' H H' : Hp} {σ : L2.St} {τ τ' : List S} {tm : Env1}
/-- named slots join the world -/
theorem Rl.frz : ∀ {cap : List Nat} {Φ : Hp} {τ τ' : List S} {ds : List D}, Rl F Φ H σ τ tm → takeAll (cap.map .ali) τ = .ok (ds, τ') → ∃ Φ', Rl F Φ' H σ τ' tm
  | [], Φ, τ, τ', ds, r, e => by
    cases e
    exact ⟨Φ, r⟩
  | i :: cap, Φ, τ, τ', ds, r, e => by
    obtain ⟨d, τ1, e1, e⟩ := bnd_ok e
    obtain ⟨ds', τ2, e2, e⟩ := bnd_ok e
    cases e
    have hs : ∃ s, τ[i]? = some s ∧ s.real := by
      cases h : τ[i]? with
      | none => unfold take at e1; simp only [h] at e1; cases e1
      | some s =>
        refine ⟨s, rfl, ?_⟩
        unfold take at e1
        simp only [h] at e1
        cases s <;> first | trivial | cases e1
    obtain ⟨s, h1, h2⟩ := hs
    obtain ⟨v, e3, _, o⟩ := r.at h1
    have hv : ∃ x, v = some x := by
      cases s with
      | val d => obtain ⟨x, q, _⟩ := o; exact ⟨x, q⟩
      | own o' => obtain ⟨a, q, _⟩ := o; exact ⟨_, q⟩
      | lent j o' => obtain ⟨a, q, _⟩ := o; exact ⟨_, q⟩
      | non => exact h2.elim
      | raw => exact h2.elim
      | ali k => exact h2.elim
    obtain ⟨x, rfl⟩ := hv
    have r1 : Rl F Φ H σ τ ((some x, .ali i) :: tm) := r.put (p := (some x, .ali i)) ⟨x, s, rfl, e3, h1, h2⟩ fun _ _ => apart_none holds_ali
    obtain ⟨Φ1, r2⟩ := r1.taken e1
    exact Rl.frz r2.tl e2
/-- plain slots, of a frame of their own -/
theorem Rl.plain (r : Rl F Φ H σ τ tm) {F' : Fm} (hG : F'.G = F.G) {Φ1 H1 : Hp} (l : Le Φ Φ1) (c : Rl F' Φ1 H1 [] [] []) : Rl F' Φ1 H1 σ (only τ) [] := by
  have nh : ∀ p ∈ σ.zip (only τ), holds p = none := fun p hp => by
    obtain ⟨v, s⟩ := p
    obtain ⟨s', _, e⟩ := List.mem_map.mp (List.of_mem_zip hp).2
    subst e
    cases s' <;> first | exact holds_val | exact holds_non
  refine ⟨by unfold only; rw [List.length_map]; exact r.len, fun s hs => ?_, c.le0, c.le, c.pres, c.dom, c.new, fun p hp => ?_, ?_, c.tabs⟩
  · obtain ⟨s', _, e⟩ := List.mem_map.mp hs
    subst e
    cases s' <;> trivial
  · rw [both, List.append_nil] at hp
    obtain ⟨i, hi, e⟩ := List.getElem_of_mem hp
    have hx : (σ.zip (only τ))[i]? = some p := by rw [List.getElem?_eq_getElem hi, e]
    obtain ⟨h1, h2⟩ := List.getElem?_zip_eq_some.mp hx
    unfold only at h2
    rw [List.getElem?_map] at h2
    obtain ⟨s', h3, h4⟩ := Option.map_eq_some_iff.mp h2
    obtain ⟨v, s⟩ := p
    simp only at h1 h4
    subst h4
    obtain ⟨v', e1, _, o⟩ := r.at h3
    rw [h1] at e1
    cases e1
    cases s' with
    | val d =>
      obtain ⟨x, q1, q2⟩ := o
      exact ⟨x, q1, by rw [hG]; exact Fz.le l q2⟩
    | _ => trivial
  · rw [both, List.append_nil, List.pairwise_iff_getElem]
    intro i j hi hj _
    exact apart_none (nh _ (List.getElem_mem hi))
end

section
variable {X : Cx} {pins : List (Addr × Obj)} {σ : L2.St} {H HZ : Hp} {s : Shared}
/-- a body is made; nothing that was known is forgotten -/
theorem lam_madeS {T : List (Addr × Str)} {c P : Addr} {params : Arguments} {body : Expr} {scope : Scope} {pos : Pos} {Ez : Value → Shared → Prop} {Qz : Value → Shared → Prop} (In0 : Inv X pins σ H s) (Tb : TabB X.base X.mg c P) (atC : X.env.code = .ref c)
    (inT : (P, X.env.qual ++ "<lambda>") ∈ T) (onT : ∀ p ∈ T, p.1 = P → p.2 = X.env.qual ++ "<lambda>") (tabs0 : Tabs T H) (nodef : defaultsOf params X.env = ([], [])) (caps : ∀ y ∈ scope.names, y.2 = .free → ∃ c, X.env.cells.lookup y.1 = some c)
    (go : ∀ (f c' : Addr) (pm ctv : Value) (H1 : Hp) (s' : Shared), Inv X pins σ H1 s' → ExtN H H1 → Tabs T H1 → (∀ b, H1 b = none → H b = none) →
      s'.heap.get? f = some (PySem.W.kla_obj "<lambda>" (X.env.qual ++ "<lambda>") params body scope (cloFrom X.env.cells scope.names []) pm c' ctv) → H1 f = none → f ∉ frs X.stack → H1 c' = some (CodeO c' (X.env.qual ++ "<lambda>")) → Qz (.ref f) s') :
    wpAny (model X.prog X.w) X.A (eval (.Lambda params body scope pos) X.env) Qz Ez s := by
  obtain ⟨trip, tabP, okT, among0⟩ := tabs0 _ inT
  refine PySem.W.kla_eval nodef ?_
  have bmP : s.heap.BuiltinsAt X.mg P := Tb.bm.keeps In0.bk
  have tabP' : s.heap.get? P = some { cls := .none, data := .fields trip } := In0.hok P _ tabP
  have noFr : ∀ f, s.heap.objs.size ≤ f → f ∉ frs X.stack := fun f hf z => by
    rcases List.mem_cons.mp (In0.stkSub _ z) with e | e
    · have h1 := In0.lt
      rw [← e] at h1
      exact Nat.lt_irrefl _ (Nat.lt_of_lt_of_le h1 hf)
    · exact In0.nofs hf e
  cases cAm : codeAmong pos trip.toList with
  | none =>
    refine PySem.W.kla_makeFunction (mg := X.mg) (c := c) (P := P) (ps := trip) (closure_ok caps) In0.ok.glob (In0.mod.glob.keeps In0.bk) atC (Tb.code.keeps In0.bk) tabP' okT cAm Tb.gP bmP fun c' ctv hp' tk exX geS ltS hrec htb => ?_
    obtain ⟨c2, oc, vs, t, eq2, hoc, hd, hv⟩ := hrec
    cases eq2
    have leS : s.heap.objs.size ≤ hp'.objs.size := Nat.le_trans geS (Nat.le_of_lt ltS)
    have newC : H c' = none := In0.hok.fresh geS
    have In1 := inv_table (t' := tk) (more := #[rawInt pos.line, rawInt pos.col, .ref c']) (h' := hp'.push (PySem.W.kla_obj "<lambda>" (X.env.qual ++ "<lambda>") params body scope (cloFrom X.env.cells scope.names []) ((X.mg "__name__").getD .none) c' ctv)) In0 tabP
      (fun b o eqP e => Heap.get?_push_of_some _ (exX b o eqP e)) (Heap.get?_push_of_some _ htb) geS ⟨oc, vs, t, Heap.get?_push_of_some _ hoc, hd, hv⟩
    have exN : ExtN H (upd (upd H P (.tbl (trip ++ #[rawInt pos.line, rawInt pos.col, .ref c']))) c' (CodeO c' (X.env.qual ++ "<lambda>"))) := fun b o e n => by
      rw [upd_ne (ne_of_none e newC), upd_ne (fun z => n trip (Option.some.inj (e.symm.trans (by rw [z]; exact tabP))))]
      exact e
    have litE : (trip ++ #[rawInt pos.line, rawInt pos.col, .ref c']).toList = trip.toList ++ [rawInt pos.line, rawInt pos.col, .ref c'] := by simp
    refine go hp'.objs.size c' ((X.mg "__name__").getD .none) ctv _ _ In1 exN (fun p hp => ?_) (fun b z => none_upd b (none_upd b z)) (Heap.get?_push_size _ rfl) ?_ (noFr _ leS) upd_same
    · by_cases eqP : p.1 = P
      · rw [onT p hp eqP, eqP]
        refine ⟨_, by rw [upd_ne (ne_of_none tabP newC), upd_same], by rw [litE]; exact PySem.TriplesOk_snoc _ _ _ _ okT, fun p' cv amV => ?_⟩
        rw [litE] at amV
        rcases among_app _ okT amV with z | z
        · obtain ⟨c0, eq1, eq2⟩ := among0 p' cv z
          exact ⟨c0, eq1, exN _ _ eq2 codeO_ne⟩
        · exact ⟨c', z, upd_same⟩
      · obtain ⟨trip', a1, a2, a3⟩ := tabs0 p hp
        refine ⟨trip', by rw [upd_ne (ne_of_none a1 newC), upd_ne eqP]; exact a1, a2, fun p' cv amV => ?_⟩
        obtain ⟨c0, eq1, eq2⟩ := a3 p' cv amV
        exact ⟨c0, eq1, exN _ _ eq2 codeO_ne⟩
    · have n1 : hp'.objs.size ≠ c' := Nat.ne_of_gt ltS
      have n2 : hp'.objs.size ≠ P := Nat.ne_of_gt (Nat.lt_of_lt_of_le (Heap.lt_size tabP') leS)
      rw [upd_ne n1, upd_ne n2]
      exact In0.hok.fresh leS
  | some cv =>
    obtain ⟨c', e, isC⟩ := among0 pos cv cAm
    subst e
    refine PySem.W.kla_makeFunctionHit (mg := X.mg) (c := c) (P := P) (ps := trip) (closure_ok caps) In0.ok.glob (In0.mod.glob.keeps In0.bk) atC (Tb.code.keeps In0.bk) tabP' okT cAm bmP fun ctv hp' tk exX leS => ?_
    have In1 : Inv X pins σ H { s with heap := hp'.push (PySem.W.kla_obj "<lambda>" (X.env.qual ++ "<lambda>") params body scope (cloFrom X.env.cells scope.names []) ((X.mg "__name__").getD .none) c' ctv), toks := tk } := In0.kept fun b o e => Heap.get?_push_of_some _ (exX b o e)
    exact go hp'.objs.size c' ((X.mg "__name__").getD .none) ctv H _ In1 (ExtN.refl H) tabs0 (fun b z => z) (Heap.get?_push_size _ rfl) (In0.hok.fresh leS) (noFr _ leS) isC
/-- the body called where it was handed: what it may let out is read at the caller's slots -/
theorem pe_actS {qg : Str} {Eg : XK} {Ng : List Str} {sg : Scope} {g f c' : Addr} {cdg pm ctv : Value} {params : Arguments} {body : Expr} {scope : Scope} {k i : Nat} {a : Str} {pn : List (Addr × Obj)} {xe : Value → Shared → Prop} {W : WX} {tb : XK → L2.TE} {p1 p2 : Pos}
    (I : Inv X pins σ H s) (L : LamS X.env.scope scope) (hob : s.heap.get? f = some (PySem.W.kla_obj "<lambda>" (X.env.qual ++ "<lambda>") params body scope (cloFrom X.env.cells scope.names []) pm c' ctv)) (hnew : H f = none) (hout : f ∉ frs X.stack)
    (hba : bindArgs (PySem.W.kla_fn "<lambda>" (X.env.qual ++ "<lambda>") params body scope (cloFrom X.env.cells scope.names []) pm (.ref c') ctv) ⟨[], []⟩ = pure [])
    (tk : Takes ((cxOf (L2.CX X.prog X.w) X.prog X.w X.K X.mg X.base Ng qg sg g cdg X.A X.stack s H Eg).tr pn xe) W) (room : Room (k + 1) (X.A.deeper (envOfC qg sg s.heap.objs.size g cdg)))
    (hbd : ∀ (E : XK) (A : Around) (outer : List Env) (s : Shared) (H : Hp), Room k (A.deeper (lamEnv X scope s.heap.objs.size f c')) → PE (lamCx X A outer s H E scope f c') body (tb E))
    (hN : Ng[i]? = some a) (hv : Vis sg a) (hd : (a == ("__debug__" : Str)) = false) (hcd : (a == ("__classdict__" : Str)) = false) :
    PE ((cxOf (L2.CX X.prog X.w) X.prog X.w X.K X.mg X.base Ng qg sg g cdg X.A X.stack s H Eg).tr pn xe) (.Call (.Name a p1) [] [] p2)
      (fun τ1 H1 Q1 => τ1[i]? = some (some (.ref f)) ∧ H1 c' = some (CodeO c' (X.env.qual ++ "<lambda>")) ∧ tb (WE W τ1) σ H1 Q1) := by
  refine ⟨fun pins1 s1 τ1 H1 Q1 I1 ⟨at1, code1, rd1⟩ => ?_⟩
  refine wpAny_Call_Name_kw (thn ((pe_var (pos := p1) (i := i) hN hv hd hcd).run pins1 s1 τ1 H1 (fun v G => v = .ref f ∧ G = H1) I1 ⟨.ref f, at1, rfl, rfl⟩) fun u s2 ⟨v, G, I2, rv, ev, eG⟩ => ?_)
  subst ev
  subst eG
  obtain rfl : u = Value.ref f := rv
  have of2 := I2.base.keep f _ hob hnew hout (fun z => nomatch (show f ∈ ([] : List Addr) from z))
  refine PySem.W.callWith_F0 ⟨_, _, _, _, of2⟩ ?_
  have un : Un (frs X.stack) [] H G s.heap s2.heap := I2.base
  obtain ⟨⟨oc, vs, t, hoc, hdc, hvc⟩, _, _⟩ := I2.hok c' _ code1
  have run : codeAny (model X.prog X.w) (X.A.deeper (envOfC qg sg s.heap.objs.size g cdg)) (.call (.ref f) ⟨[], []⟩) (CR (L2.CX X.prog X.w) (envOfC qg sg s.heap.objs.size g cdg :: X.stack) X.prog X.w G s2 Q1 (WE W τ1)) s2 := by
    refine PySem.W.kla_callFunE room.depth of2 rfl L.co L.gen rfl ⟨c', oc, vs, t, rfl, hoc, hdc, hvc⟩ ?_
    rw [hba]
    refine wpAny_pure (wpAny_newFunctionEnv (fun y hy => (L.own y hy).2) (fun y hy => absurd hy (by simp)) (fun h₁ ns₁ sb₁ => ⟨I2.nolimit.fresh _ sb₁, ?_⟩) L.kind)
    show codeAny _ _ (.expr body (lamEnv X scope s2.heap.objs.size f c')) _ _
    have kp₁ : ∀ b o, s2.heap.get? b = some o → h₁.get? b = some o := fun b o e => sb₁.extBut b o (Nat.ne_of_lt (Heap.lt_size e)) (Heap.get?_push_of_some _ e)
    have J := lam_start2 (E := WE W τ1) (f := f) (c' := c') (tk := s2.toks + ([] : List (Str × Value)).length) I L I2.env0 room.hd un ns₁ kp₁
    refine PySem.W.kla_codeExpr (wpAny_mono ((hbd (WE W τ1) _ _ s2 G (room.deeper _)).run [] _ _ G Q1 J rd1) (fun v s' ⟨v', H', J', rv, q⟩ => ⟨v', H', J'.os, J'.bare, J'.base, J'.hok, rv, q⟩) fun e s' hq => hq)
  refine wpAny_call (codeAny_mono run fun r s' hq => ?_)
  cases r with
  | error e => exact passAt tk τ1 pins1 G s2 e s' I2 hq
  | ok fl =>
    cases fl with
    | ret u => exact I2.after hq
    | next => exact False.elim hq
    | brk => exact False.elim hq
    | cont => exact False.elim hq
end
/-- what the written part says of the def that is handed a body -/
structure GivOk (P : Program) (w : World) (K : PySem.W.Frag) (mg : Str → Option Value) (base : Heap) (G : Gx) (k : Nat) (x : Str) (gv : Th → R S) : Prop where
  ex : ∃ (a : Str) (g : Addr) (pg : Arguments) (bg : List Stmt) (sg : Scope) (dV kV doc pm cdv ct oc : Value) (an od : Option Addr) (osl : Array (Option Value)) (Ng : List Str) (m : Th → M Fl),
    mg x = some (.ref g) ∧ PySem.W.keepIn K (.ref g) = true ∧ K.lookup g = some ⟨oc, od, .func (PySem.W.fnOf x x pg bg sg dV kV doc pm an cdv ct), osl⟩ ∧ PySem.W.codeIn K cdv x = true ∧ Binds K (PySem.W.fnOf x x pg bg sg dV kV doc pm an cdv ct) [a] [] ∧ FnScope Ng [a] sg ∧
    gv = runG Ng.length m ∧ (a == ("__debug__" : Str)) = false ∧ (a == ("__classdict__" : Str)) = false ∧
    ∀ (A : Around) (outer : List Env) (s : Shared) (H : Hp) (E : XK) (F : Fm) (o : Th), F.G = G → Room k (A.deeper (envOfC x sg s.heap.objs.size g cdv)) →
      (∀ (W : WX) (pn : List (Addr × Obj)) (xe : Value → Shared → Prop) (p1 p2 : Pos), Fits ((cxOf (L2.CX P w) P w K mg base Ng x sg g cdv A outer s H E).tr pn xe) F W → EM ((cxOf (L2.CX P w) P w K mg base Ng x sg g cdv A outer s H E).tr pn xe) F W (.Call (.Name a p1) [] [] p2) (eThunk o)) →
      Fits (cxOf (L2.CX P w) P w K mg base Ng x sg g cdv A outer s H E) F (fun cls d _ H => E cls d H) →
      BlM (cxOf (L2.CX P w) P w K mg base Ng x sg g cdv A outer s H E) F (fun cls d _ H => E cls d H) bg (m o)
/-- where the maker's code object and its table stand -/
structure TabOk (X : Cx) (G : Gx) (c P : Addr) : Prop where
  tb : TabB X.base X.mg c P
  code : X.env.code = .ref c
  mem : (P, X.env.qual ++ "<lambda>") ∈ G.T
  un : ∀ p ∈ G.T, p.1 = P → p.2 = X.env.qual ++ "<lambda>"
section
variable {X : Cx} {F : Fm} {W : WX} {Φ Φ' H H' : Hp} {σ : L2.St} {τ τ' : List S} {tm : Env1}
/-- the frame of the def that is handed a body -/
theorem Rl.enterG (r : Rl F Φ H σ τ tm) {f : Addr} : Rl ⟨F.G, Φ, H, fun _ => none, some f⟩ Φ H [some (.ref f)] [.raw] [] := by
  refine ⟨rfl, fun s hs => ?_, Le.refl _, r.le, (fun b o h _ _ => h), (fun b h => h), (fun b o h => .inl h), fun p hp => ?_, ?_, r.tabs⟩
  · cases hs with
    | head => trivial
    | tail _ h => cases h
  · cases hp with
    | head => exact ⟨f, rfl, rfl⟩
    | tail _ h => cases h
  · exact List.Pairwise.cons (fun _ h => nomatch h) List.Pairwise.nil
theorem Rl.startG {P : Nat → Option Addr} {f : Addr} {G : Gx} {Φ0 H0 : Hp} (r : Rl ⟨G, Φ0, H0, P, some f⟩ Φ H [some (.ref f)] [.raw] []) (N : List Str) : Rl ⟨G, Φ0, H0, P, some f⟩ Φ H (L2.start N [.ref f]) (.raw :: List.replicate (N.length - 1) .non) [] := by
  have z : (L2.start N [V.ref f]).zip (S.raw :: List.replicate (N.length - 1) .non) = (some (V.ref f), S.raw) :: List.replicate (N.length - 1) (none, S.non) := by
    unfold L2.start
    show (some (V.ref f), S.raw) :: (List.replicate (N.length - 1) none).zip (List.replicate (N.length - 1) S.non) = _
    rw [zip_replicate]
  have nn : ∀ p ∈ List.replicate (N.length - 1) ((none : Option V), S.non), p = (none, .non) := fun p hp => List.eq_of_mem_replicate hp
  refine ⟨by unfold L2.start; simp, fun s hs => ?_, r.le0, r.le, r.pres, r.dom, r.new, fun p hp => ?_, ?_, r.tabs⟩
  · rcases List.mem_cons.mp hs with q | q
    · rw [q]; trivial
    · rw [List.eq_of_mem_replicate q]; trivial
  · rw [both, List.append_nil, z] at hp
    rcases List.mem_cons.mp hp with q | q
    · rw [q]; exact ⟨f, rfl, rfl⟩
    · rw [nn p q]; trivial
  · rw [both, List.append_nil, z]
    refine List.pairwise_cons.mpr ⟨fun _ _ => apart_none rfl, ?_⟩
    refine List.Pairwise.imp_of_mem (fun {a b} ha _ _ => ?_) (List.pairwise_replicate.mpr (.inr trivial) : (List.replicate _ ((none : Option V), S.non)).Pairwise (fun _ _ => True))
    rw [nn a ha]
    exact apart_none rfl
/-- a frame without its slots -/
theorem Rl.bare {f : Option Addr} {G : Gx} {Φ0 H0 : Hp} {P : Nat → Option Addr} (r : Rl ⟨G, Φ0, H0, P, f⟩ Φ H σ τ tm) : Rl ⟨G, Φ0, H0, P, none⟩ Φ H [] [] [] :=
  ⟨rfl, (fun _ h => nomatch h), r.le0, r.le, r.pres, r.dom, r.new, (fun _ h => nomatch h), List.Pairwise.nil, r.tabs⟩
/-- a frame of its own, begun here -/
theorem Rl.own0 (r : Rl F Φ H σ τ tm) : Rl ⟨F.G, Φ, H, fun _ => none, none⟩ Φ H [] [] [] :=
  ⟨rfl, (fun _ h => nomatch h), Le.refl _, r.le, (fun b o h _ _ => h), (fun b h => h), (fun b o h => .inl h), (fun _ h => nomatch h), List.Pairwise.nil, r.tabs⟩
/-- the world stays when a body is made -/
theorem Rl.made {H1 : Hp} (r : Rl F Φ H σ τ tm) (e : ExtN H H1) (t : Tabs F.G.T H1) (n : ∀ b, H1 b = none → H b = none) : Rl F Φ H1 σ τ tm := by
  refine r.grow (Le.refl _) (fun b o h => e b o (r.le b o h) fun ps z => ?_) e (fun b o h => .inl h) ⟨t, r.tabs.2⟩ n
  subst z
  exact r.tabs.2 b ps h
/-- behind a call of a frame of its own -/
theorem Rl.afterG {f : Option Addr} (r : Rl F Φ H σ τ tm) (c : Rl ⟨F.G, Φ, H, fun _ => none, f⟩ Φ' H' [] [] []) : Rl F Φ' H' σ τ tm :=
  r.grow c.le0 c.le (fun b o h h2 => c.pres b o h (fun j z => by cases z) h2) (fun b o h => c.new b o h) c.tabs c.dom
theorem em_lam {k : Nat} {x : Str} {g : Th → R S} {c P : Addr} {params : Arguments} {body : Expr} {scope : Scope} {lpos p pos : Pos} {ml : M S} (cap : List Nat) (ft : Fits X F W) (hr : Room (k + 2) X.A) (gv : GivOk X.prog X.w X.K X.mg X.base F.G (k + 1) x g) (tb : TabOk X F.G c P) (hg : Gl X x := by rfl) (hdb : (x == ("__debug__" : Str)) = false := by decide) (L : LamS X.env.scope scope := by exact LamX.lamS_by (by first | kernel_rfl | decide +kernel)) (hdef : defaultsOf params X.env = ([], []) := by rfl)
    (hbind : ∀ (q : Str) (cl : List (Str × Addr)) (pm cv ctv : Value), bindArgs (PySem.W.kla_fn "<lambda>" q params body scope cl pm cv ctv) ⟨[], []⟩ = pure [] := by intros; rfl)
    (hbody : ∀ (A : Around) (outer : List Env) (s : Shared) (H : Hp) (E : XK) (f c' : Addr) (F' : Fm) (W' : WX), F'.G = F.G → Room k (A.deeper (lamEnv X scope s.heap.objs.size f c')) → Fits (lamCx X A outer s H E scope f c') F' W' → EM (lamCx X A outer s H E scope f c') F' W' body ml) :
    EM X F W (.Call (.Name x p) [.Lambda params body scope lpos] [] pos) (eLam cap ml g) := by
  refine ⟨fun pins s σ H Q I ⟨Φ, τ, tm, r, h⟩ => ?_⟩
  obtain ⟨a, ga, pg, bg, sg, dV, kV, doc, pm, cdv, ct, oc, an, od, osl, Ng, m, hm, hk, lk, hcg, hb, Sg, eg, hd, hcd, BD⟩ := gv.ex
  obtain ⟨ds, τ1, e1, p1⟩ := takeAll_cases h.bnd
  obtain ⟨Φ1, r1⟩ := r.frz e1
  refine wpAny_Call_Name_kw (ld_glob I hg hm ?_ hdb)
  refine PySem.W.callWith_K (h₀ := X.base) I.ok.mod.kin hk ?_ (by rfl) (by rfl)
  show wpAny _ _ (spliced ((false, eval (.Lambda params body scope lpos) X.env) :: backTo pos (starEach [] X.env))) _ _ s
  refine Calls.spliced_cons (lam_madeS I tb.tb tb.code tb.mem tb.un r1.tabs.1 hdef (L.has I.ok) fun f c' pm' ctv H1 s' I1 eN T1 nn hf hfn hfr hco => ?_)
  refine Calls.spliced_nil ⟨I1.kIn, ?_⟩
  have r2 := r1.made eN T1 nn
  have hN0 : Ng[0]? = some a := by
    have := Sg.pre
    cases Ng with
    | nil => cases this
    | cons b r => cases this; rfl
  have hva : Vis sg a := by
    rcases Sg.par a List.mem_cons_self with q | q
    · exact .inl q
    · exact .inr (.inl q)
  have rc : codeAny (model X.prog X.w) X.A (.call (.ref ga) ⟨[.ref f], []⟩) (CR (L2.CX X.prog X.w) X.stack X.prog X.w H1 s' Q (WE W σ)) s' := by
    refine LamX.run_ofS (N := Ng) (ps := [a]) (us := [.ref f]) (vs := [.ref f]) lk hcg Sg hr I1.env0 (hb s' [.ref f] I1.kIn rfl) (.cons rfl .nil) rfl fun hr' => ?_
    have tk : Takes (cxOf (L2.CX X.prog X.w) X.prog X.w X.K X.mg X.base Ng x sg ga cdv X.A X.stack s' H1 (WE W σ)) (fun cls d _ H => WE W σ cls d H) := takes_of rfl rfl rfl rfl
    have po : PassesOwn (model X.prog X.w) (cxOf (L2.CX X.prog X.w) X.prog X.w X.K X.mg X.base Ng x sg ga cdv X.A X.stack s' H1 (WE W σ)).A (cxOf (L2.CX X.prog X.w) X.prog X.w X.K X.mg X.base Ng x sg ga cdv X.A X.stack s' H1 (WE W σ)).env (cxOf (L2.CX X.prog X.w) X.prog X.w X.K X.mg X.base Ng x sg ga cdv X.A X.stack s' H1 (WE W σ)).xe := passes_of (X := cxOf (L2.CX X.prog X.w) X.prog X.w X.K X.mg X.base Ng x sg ga cdv X.A X.stack s' H1 (WE W σ)) rfl
    have bl := BD X.A X.stack s' H1 (WE W σ) ⟨F.G, Φ1, H1, fun _ => none, some f⟩ (thk ml τ1) rfl hr' (fun W2 pn xe p1 p2 ft2 => ?_) ⟨rfl, Sg.nd, ft.K, tk, po⟩
    · refine ⟨_, bl, Φ1, _, [], (fun _ h => nomatch h), (r2.enterG (f := f)).startG Ng, ?_⟩
      unfold runG at eg
      rw [eg] at p1
      simp only at p1
      cases q : m (thk ml τ1) (.raw :: List.replicate (Ng.length - 1) .non) with
      | stuck => rw [q] at p1; exact p1.elim
      | exc c1 fs1 τ2 =>
        rw [q] at p1
        exact fun cls d σ' H' Φ' r' x' => p1 cls d σ H' Φ' (r2.afterG r'.bare) x'
      | ok pr =>
        obtain ⟨fl, τ2⟩ := pr
        rw [q] at p1
        cases fl with
        | bk => exact p1.elim
        | ct => exact p1.elim
        | nx => exact fun σ' H' Φ' r' => p1 .non H' Φ' ((r2.afterG r'.bare).val .non)
        | rt s2 =>
          cases q2 : retS s2 with
          | false => simp only [q2, Bool.false_eq_true, if_false] at p1; exact p1.elim
          | true =>
            simp only [q2, if_true] at p1
            exact fun v σ' H' Φ' r' => p1 v H' Φ' (by
              have o : One ⟨F.G, Φ1, H1, fun _ => none, none⟩ Φ' H' σ' τ2 (some v, s2) := by
                cases s2 <;> first | exact r'.hd | cases q2
              exact (r2.afterG r'.bare).handed (H := H1) (P := fun _ => none) r2.dom (fun p hp a ha => r2.there p hp a ha) o q2)
    · refine PE.imp (pe_actS (i := 0) (tb := fun E σ H Q => ∃ F' : Fm, F'.G = F.G ∧ TEm F' (fun cls d _ H => E cls d H) ml σ H Q) I1 L hf hfn hfr (hbind _ _ _ _ _) ft2.tk hr' (fun E A outer s H hr2 => ⟨fun pins' s' σ' H' Q' I' ⟨F', eG, hq⟩ => ?_⟩) hN0 hva hd hcd) fun σZ HZ QZ hz => ?_
      · exact (hbody A outer s H E f c' F' (fun cls d _ H => E cls d H) eG hr2 ⟨rfl, ft.nd, by rw [eG]; exact ft.K, takes_of rfl rfl rfl rfl, passes_of rfl⟩).run pins' s' σ' H' Q' I' hq
      · obtain ⟨ΦZ, τZ, tmZ, rZ, hz⟩ := hz
        unfold eThunk at hz
        cases e0 : τZ[0]? with
        | none => rw [e0] at hz; exact hz.elim
        | some s0 =>
          rw [e0] at hz
          cases s0 with
          | raw =>
            obtain ⟨v, e2, _, fa, e3, e4⟩ := rZ.at e0
            cases e4
            subst e3
            have rL : Rl ⟨F.G, ΦZ, HZ, fun _ => none, none⟩ ΦZ HZ σ (only τ1) [] := r2.plain (F' := ⟨F.G, ΦZ, HZ, fun _ => none, none⟩) rfl rZ.le0 rZ.own0
            refine ⟨e2, rZ.pres c' _ hco (fun j z => by cases z) codeO_ne, ⟨F.G, ΦZ, HZ, fun _ => none, none⟩, rfl, ΦZ, only τ1, [], rL, ?_⟩
            simp only at hz
            unfold thk M.bnd at hz
            cases e5 : ml (only τ1) with
            | stuck => simp only [e5] at hz; exact hz
            | exc c2 fs2 τ2 =>
              simp only [e5] at hz
              exact fun cls d σ' H' Φ' r' x' => hz cls d σZ H' Φ' (rZ.afterG r'.bare) x'
            | ok pr =>
              obtain ⟨s5, τ5⟩ := pr
              simp only [e5] at hz
              cases e6 : take s5 τ5 with
              | stuck => simp only [e6] at hz; exact hz.elim
              | exc c2 fs2 τ2 =>
                exfalso
                unfold take at e6
                split at e6 <;> (first | (cases e6; done) | (split at e6 <;> cases e6))
              | ok pr2 =>
                obtain ⟨d6, τ6⟩ := pr2
                simp only [e6] at hz
                exact fun v H' Φ' r' => by
                  obtain ⟨Φ2, r7⟩ := r'.taken e6
                  obtain ⟨x, ex, fz⟩ := r7.hd
                  cases ex
                  exact hz v H' Φ2 ((rZ.afterG r7.bare).val fz)
          | _ => exact hz.elim
  refine wpAny_call (codeAny_mono rc fun r s2 hq => ?_)
  cases r with
  | error e => exact passAt ft.tk σ pins H1 s' e s2 I1 hq
  | ok fl =>
    cases fl with
    | ret u => exact I1.after hq
    | next => exact False.elim hq
    | brk => exact False.elim hq
    | cont => exact False.elim hq
end
end Mi

/-! ### M15: what the head tells; the end of a law -/
namespace Mi
open PySem PySem.Spec PyProof.Rows L2
open LamX (TabB LawAtS)

/-! #### the world of a law -/
abbrev Tq := He.Defn × Str
def lamQ (q : Str) : Str := (q ++ ".<locals>.") ++ "<lambda>"
def glOf (mg : Str → Option Value) : Str → Option Addr := fun x => match mg x with
  | some (.ref a) => some a
  | _ => none
def gxOf (tq : List Tq) (K : PySem.W.Frag) (mg : Str → Option Value) : Gx := ⟨K, glOf mg, glOf mg, tq.map fun p => ((He.cT K p.1).2, lamQ p.2)⟩
theorem glOf_iff {mg : Str → Option Value} {x : Str} {a : Addr} : glOf mg x = some a ↔ mg x = some (.ref a) := by
  unfold glOf
  split
  · rename_i b h
    rw [h]; simp
  · rename_i h
    constructor
    · intro z; cases z
    · intro z; exact absurd z (h a)
theorem globOk {tq : List Tq} {K : PySem.W.Frag} {mg : Str → Option Value} : GlobOk mg (gxOf tq K mg) := ⟨fun _ _ => glOf_iff, fun _ _ => glOf_iff⟩
structure HdOk (fa : List He.Fa) (fn : List He.DefD) (tq : List Tq) (exs : PySem.W.Frag → List Bool) (K : PySem.W.Frag) (mg : Str → Option Value) (base : Heap) : Prop where
  gl : ∀ x, (He.Fa.glo x).ok K = true → mg x = some (.ref (He.ga K x))
  fr : ∀ x, (He.Fa.free x).ok K = true → mg x = none
  fact : ∀ f ∈ fa, f.ok K = true
  defs : ∀ d ∈ fn, ∃ fd, FunD K d.name d.qual d.params d.body d.scope (d.dvs K) (d.kws K) (He.fAd K d.at_) fd
  more : (exs K).all id = true
  tabs : ∀ p ∈ tq, TabB base mg (He.cT K p.1).1 (He.cT K p.1).2
  ns : ∀ x u, PySem.W.nsIn K mainGlobals x = some (some u) → mg x = some u
section
variable {fa : List He.Fa} {fn : List He.DefD} {tq : List Tq} {exs : PySem.W.Frag → List Bool} {K : PySem.W.Frag} {mg : Str → Option Value} {base : Heap}
theorem HdOk.glo (h : HdOk fa fn tq exs K mg base) (i : Nat) {x : Str} (e : fa[i]? = some (.glo x) := by rfl) : mg x = some (.ref (He.ga K x)) := h.gl x (h.fact _ (List.mem_of_getElem? e))
theorem HdOk.free (h : HdOk fa fn tq exs K mg base) (i : Nat) {x : Str} (e : fa[i]? = some (.free x) := by rfl) : mg x = none := h.fr x (h.fact _ (List.mem_of_getElem? e))
theorem HdOk.df (h : HdOk fa fn tq exs K mg base) (i : Nat) {d : He.DefD} (e : fn[i]? = some d := by rfl) : ∃ fd, FunD K d.name d.qual d.params d.body d.scope (d.dvs K) (d.kws K) (He.fAd K d.at_) fd := h.defs d (List.mem_of_getElem? e)
theorem HdOk.ex (h : HdOk fa fn tq exs K mg base) (i : Nat) {b : Bool} (e : (exs K)[i]? = some b := by rfl) : b = true := List.all_eq_true.mp h.more b (List.mem_of_getElem? e)
theorem HdOk.tab (h : HdOk fa fn tq exs K mg base) (i : Nat) {p : Tq} (e : tq[i]? = some p := by rfl) : TabB base mg (He.cT K p.1).1 (He.cT K p.1).2 := h.tabs p (List.mem_of_getElem? e)
end

/-! #### defs -/
section
variable {P : Program} {w : World} {K : PySem.W.Frag} {mg : Str → Option Value} {base : Heap} {G : Gx} {x : Str} {params : Arguments} {bdy : List Stmt} {scope : Scope} {f : Addr} {fd : FuncData} {N ps : List Str} {k : Nat} {m : M Fl}
theorem fnD {qual : Str} {dvs : List V} {kws : List (Str × V)} (hK : G.K = K) (Fu : FunD K x qual params bdy scope dvs kws f fd) (Sc : FnScope N ps scope)
    (body : ∀ (cdv : Value) (A : Around) (outer : List Env) (s : Shared) (H : Hp) (E : XK) (F : Fm), fd.code = cdv → F.G = G → Room k (A.deeper (envOfC qual scope s.heap.objs.size f cdv)) →
      Fits (cxOf (L2.CX P w) P w K mg base N qual scope f cdv A outer s H E) F (fun cls d _ H => E cls d H) → BlM (cxOf (L2.CX P w) P w K mg base N qual scope f cdv A outer s H E) F (fun cls d _ H => E cls d H) bdy m) :
    FnOk P w K mg base (L2.CX P w) (k + 1) f fd ps (spM G ps.length (runFn ps.length N.length m)) := by
  subst hK
  obtain ⟨oc, od, dV, kV, doc, pm, an, cdv, ct, osl, rfl, lk, hcd, _, _⟩ := Fu.ex
  refine fn_of lk hcd Sc (fun vs H Q E h => ?_) fun A outer s H vs Q E hr h => body_sp Sc hr h fun F eG ft => body cdv A outer s H E F rfl eG hr ft
  obtain ⟨Φ, Pl, ss, l, r, _⟩ := h
  rw [← l]
  simpa using r.len
/-- a def of the module without defaults -/
theorem defOk (hK : G.K = K) (Fu : FunD K x x params bdy scope [] [] f fd) (hm : mg x = some (.ref f)) (Sc : FnScope N ps scope)
    (hb : ∀ (kV doc pm : Value) (an : Option Addr) (cdv ct : Value) (us : List Value), us.length = ps.length → bindArgs (PySem.W.fnOf x x params bdy scope .none kV doc pm an cdv ct) ⟨us, []⟩ = pure (ps.zip us))
    (body : ∀ (cdv : Value) (A : Around) (outer : List Env) (s : Shared) (H : Hp) (E : XK) (F : Fm), fd.code = cdv → F.G = G → Room k (A.deeper (envOfC x scope s.heap.objs.size f cdv)) →
      Fits (cxOf (L2.CX P w) P w K mg base N x scope f cdv A outer s H E) F (fun cls d _ H => E cls d H) → BlM (cxOf (L2.CX P w) P w K mg base N x scope f cdv A outer s H E) F (fun cls d _ H => E cls d H) bdy m) :
    DefOk P w K mg base G (k + 1) x ps.length (runFn ps.length N.length m) :=
  ⟨⟨f, fd, ps, fnD hK Fu Sc body, hm, Fu.kp, Fu.bindsN hb⟩, proper_run, arity_run⟩
theorem DefOk.up {j n : Nat} {mf : Fn} (d : DefOk P w K mg base G j x n mf) (h : j ≤ k) : DefOk P w K mg base G k x n mf := by
  obtain ⟨f, fd, ps, o, hm, kp, b⟩ := d.ex
  exact ⟨⟨f, fd, ps, o.mono h, hm, kp, b⟩, d.pr, d.ar⟩
/-- the same, called by keywords alone -/
theorem kwOk {n : Nat} {mf : Fn} {ks : List Str} {ix : List Nat} (d : DefOk P w K mg base G k x n mf) (Fu : FunD K x x params bdy scope [] [] f fd) (hm : mg x = some (.ref f)) (hl : ix.length = n)
    (hb : ∀ (kV doc pm : Value) (an : Option Addr) (cdv ct : Value) (ws : List Value), ws.length = ks.length → bindArgs (PySem.W.fnOf x x params bdy scope .none kV doc pm an cdv ct) ⟨[], ks.zip ws⟩ = pure (ps.zip (pick .none ix ws)))
    (ok : FnOk P w K mg base (L2.CX P w) k f fd ps (spM G n mf)) : KwOk P w K mg base G k x n ks ix mf := by
  refine ⟨⟨f, fd, ps, ok, hm, Fu.kp, fun s ws hw => ?_⟩, d.pr, d.ar, hl⟩
  obtain ⟨oc, od, dV, kV, doc, pm, an, cdv, ct, osl, rfl, lk, hcd, hD, hK⟩ := Fu.ex
  rcases hD with ⟨_, rfl⟩ | ⟨e, _⟩
  · exact .of_eq (hb kV doc pm an cdv ct ws hw)
  · exact absurd rfl e
/-- a def that is handed a body -/
theorem givOk {a : Str} {mt : Th → M Fl} (hK : G.K = K) (Fu : FunD K x x params bdy scope [] [] f fd) (hm : mg x = some (.ref f)) (Sc : FnScope N [a] scope) (hd : (a == ("__debug__" : Str)) = false) (hcd : (a == ("__classdict__" : Str)) = false)
    (hb : ∀ (kV doc pm : Value) (an : Option Addr) (cdv ct : Value) (us : List Value), us.length = [a].length → bindArgs (PySem.W.fnOf x x params bdy scope .none kV doc pm an cdv ct) ⟨us, []⟩ = pure ([a].zip us))
    (body : ∀ (cdv : Value) (A : Around) (outer : List Env) (s : Shared) (H : Hp) (E : XK) (F : Fm) (o : Th), F.G = G → Room k (A.deeper (envOfC x scope s.heap.objs.size f cdv)) →
      (∀ (W : WX) (pn : List (Addr × Obj)) (xe : Value → Shared → Prop) (p1 p2 : Pos), Fits ((cxOf (L2.CX P w) P w K mg base N x scope f cdv A outer s H E).tr pn xe) F W → EM ((cxOf (L2.CX P w) P w K mg base N x scope f cdv A outer s H E).tr pn xe) F W (.Call (.Name a p1) [] [] p2) (eThunk o)) →
      Fits (cxOf (L2.CX P w) P w K mg base N x scope f cdv A outer s H E) F (fun cls d _ H => E cls d H) → BlM (cxOf (L2.CX P w) P w K mg base N x scope f cdv A outer s H E) F (fun cls d _ H => E cls d H) bdy (mt o)) :
    GivOk P w K mg base G k x (runG N.length mt) := by
  have bd := Fu.bindsN hb
  have kp := Fu.kp
  obtain ⟨oc, od, dV, kV, doc, pm, an, cdv, ct, osl, rfl, lk, hcd', _, _⟩ := Fu.ex
  exact ⟨a, f, params, bdy, scope, dV, kV, doc, pm, cdv, ct, oc, an, od, osl, N, mt, hm, kp, lk, hcd', bd, Sc, rfl, hd, hcd, fun A outer s H E F o eG hr act ft => body cdv A outer s H E F o eG hr act ft⟩
end
/-- the table of a def that makes bodies -/
theorem tabOk {fa : List He.Fa} {fn : List He.DefD} {tq : List Tq} {exs : PySem.W.Frag → List Bool} {X : Cx} {K : PySem.W.Frag} {qual y : Str} {params : Arguments} {bdy : List Stmt} {scope : Scope} {dvs : List V} {kws : List (Str × V)} {p : Tq} {fd : FuncData} (hd : HdOk fa fn tq exs K X.mg X.base) (Fu : FunD K y qual params bdy scope dvs kws (He.fAd K p.1) fd) (hc : fd.code = X.env.code) (i : Nat) (ei : tq[i]? = some p)
    (hq : X.env.qual ++ "<lambda>" = lamQ p.2) (un : ((tq.map fun p => (He.cT K p.1).2).Nodup)) : TabOk X (gxOf tq K X.mg) (He.cT K p.1).1 (He.cT K p.1).2 := by
  have hm := List.mem_of_getElem? ei
  obtain ⟨oc, od, dV, kV, doc, pm, an, cdv, ct, osl, efd, lk, hcd, _, _⟩ := Fu.ex
  have ec : fd.code = cdv := by rw [efd]
  obtain ⟨c, e⟩ := He.codeIn_ref hcd
  have e2 : fd.code = .ref c := ec.trans e
  refine ⟨hd.tabs p hm, ?_, ?_, fun q hq2 e3 => ?_⟩
  · rw [← hc, e2]
    exact congrArg Value.ref (He.codeOf_eq lk e2).symm
  · rw [hq]
    exact List.mem_map.mpr ⟨p, hm, rfl⟩
  · obtain ⟨r, hr, rfl⟩ := List.mem_map.mp hq2
    simp only at e3
    have : r = p := by
      have pw := List.pairwise_map.mp un
      have inj : ∀ {l : List Tq}, l.Pairwise (fun a b => (He.cT K a.1).2 ≠ (He.cT K b.1).2) → r ∈ l → p ∈ l → r = p := fun {l} => by
        induction l with
        | nil => intro _ h; cases h
        | cons z l ih =>
          intro h h1 h2
          obtain ⟨h3, h4⟩ := List.pairwise_cons.mp h
          rcases List.mem_cons.mp h1 with q1 | q1
          · rcases List.mem_cons.mp h2 with q2 | q2
            · rw [q1, q2]
            · exact absurd (by rw [← q1]; exact e3) (h3 p q2)
          · rcases List.mem_cons.mp h2 with q2 | q2
            · exact absurd (by rw [← q2]; exact e3.symm) (h3 r q1)
            · exact ih h4 q1 q2
      exact inj pw hr hm
    rw [this]
    exact hq.symm

/-! #### errors -/
def oexB (K : PySem.W.Frag) (C : Addr) : Bool := (match K.lookup C with
  | some ⟨.type t, _, .cls cd, sl⟩ => (match cd.mro, sl.toList with
    | .ref C' :: bm, [_, _, _, _, some (.builtin n), _] => decide (t = "type") && (decide (C' = C) && (decide (n = "ValueError.__new__") && (!cd.hasDel && (cd.hasDict && PySem.HandSPX.refsVE bm))))
    | _, _ => false)
  | _ => false) && (He.eqO (PySem.W.findIn K (.ref C) "__setattr__") (some (some (.builtin "object.__setattr__"))) && (decide (PySem.W.subIn K (.ref C) (.type "BaseException") = some true) && (decide (PySem.W.typeIn K (.ref C) = some (.type "type")) && PySem.W.keepIn K (.ref C))))
theorem oexB_ok {K : PySem.W.Frag} {C : Addr} (h : oexB K C = true) : OexC K C := by
  obtain ⟨h1, h2⟩ := He.ba h
  obtain ⟨h2, h3⟩ := He.ba h2
  obtain ⟨h3, h4⟩ := He.ba h3
  obtain ⟨h4, h5⟩ := He.ba h4
  refine ⟨?_, He.eqO_ok h2, of_decide_eq_true h3, of_decide_eq_true h4, h5⟩
  split at h1
  · rename_i t dd cd sl lk
    split at h1
    · rename_i C' bm k0 k1 k2 k3 n k5 hm hs
      obtain ⟨q1, h1⟩ := He.ba h1
      obtain ⟨q2, h1⟩ := He.ba h1
      obtain ⟨q3, h1⟩ := He.ba h1
      obtain ⟨q4, h1⟩ := He.ba h1
      obtain ⟨q5, q6⟩ := He.ba h1
      have e1 := of_decide_eq_true q1
      have e2 := of_decide_eq_true q2
      have e3 := of_decide_eq_true q3
      subst e1 e2 e3
      obtain ⟨nm, bs, mro, ns, qn, hd, sn, sub, ab, col, del⟩ := cd
      simp only at hm q4 q5
      have q4' : del = false := by simpa using q4
      subst hm q4' q5
      obtain ⟨l⟩ := sl
      simp only at hs
      subst hs
      exact ⟨nm, qn, ns, bs, bm, sn, sub, ab, col, dd, k0, k1, k2, k3, k5, lk, q6⟩
    · cases h1
  · cases h1
def excIB (K : PySem.W.Frag) (C : Addr) : Bool := (PySem.W.clsIn K C).isSome && (He.eqO (PySem.W.findIn K (.ref C) "__getattribute__") (some (some (.builtin "BaseException.__getattribute__"))) && (He.eqO (PySem.W.findIn K (.ref C) "__getattr__") (some none) && (decide (PySem.W.subIn K (.ref C) (.type "BaseException") = some true) &&
  (He.eqO (PySem.W.findIn K (.ref C) "__class__") (some (some (.builtin "object.__class__"))) && (He.eqO (PySem.W.specialIn K (.builtin "object.__class__") "__get__") (some (some (.builtin "getset_descriptor.__get__"))) && (decide (PySem.W.takesIn K (.builtin "object.__class__") = some true) && (decide (PySem.W.mroIn K C (.type "object") = some true) && PySem.W.hasDictIn K C)))))))
theorem excIB_ok {K : PySem.W.Frag} {C : Addr} (h : excIB K C = true) : ExcI K C := by
  obtain ⟨h1, h⟩ := He.ba h
  obtain ⟨h2, h⟩ := He.ba h
  obtain ⟨h3, h⟩ := He.ba h
  obtain ⟨h4, h⟩ := He.ba h
  obtain ⟨h5, h⟩ := He.ba h
  obtain ⟨h6, h⟩ := He.ba h
  obtain ⟨h7, h⟩ := He.ba h
  obtain ⟨h8, h9⟩ := He.ba h
  exact ⟨h1, He.eqO_ok h2, He.eqO_ok h3, of_decide_eq_true h4, He.eqO_ok h5, He.eqO_ok h6, of_decide_eq_true h7, of_decide_eq_true h8, h9⟩
def insIB (K : PySem.W.Frag) (x : Str) : Bool := (He.Fa.cls x).ok K && (He.eqO (PySem.W.findIn K (.ref (He.ga K x)) "__class__") (some (some (.builtin "object.__class__"))) && (He.eqO (PySem.W.specialIn K (.builtin "object.__class__") "__get__") (some (some (.builtin "getset_descriptor.__get__"))) && (decide (PySem.W.takesIn K (.builtin "object.__class__") = some true) && decide (PySem.W.mroIn K (He.ga K x) (.type "object") = some true))))
theorem insIB_ok {K : PySem.W.Frag} {x : Str} (h : insIB K x = true) : InsI K (He.ga K x) := by
  obtain ⟨h1, h⟩ := He.ba h
  obtain ⟨h5, h⟩ := He.ba h
  obtain ⟨h6, h⟩ := He.ba h
  obtain ⟨h7, h8⟩ := He.ba h
  exact ⟨He.cls_ok h1, He.eqO_ok h5, He.eqO_ok h6, of_decide_eq_true h7, of_decide_eq_true h8⟩
/-! #### isinstance, by a list of what is and what is not -/
def tgEq : Tg → Tg → Bool
  | .bt a, .bt b => decide (a = b)
  | .ins a, .ins b => decide (a = b)
  | .exc a, .exc b => decide (a = b)
  | _, _ => false
def clEq : Cl → Cl → Bool
  | .bt a, .bt b => decide (a = b)
  | .own a, .own b => decide (a = b)
  | _, _ => false
theorem tgEq_ok {a b : Tg} (h : tgEq a b = true) : a = b := by
  cases a <;> cases b <;> first | cases h | exact congrArg _ (of_decide_eq_true h)
theorem clEq_ok {a b : Cl} (h : clEq a b = true) : a = b := by
  cases a <;> cases b <;> first | cases h | exact congrArg _ (of_decide_eq_true h)
abbrev IsL := List (Tg × Cl × Bool)
def isTb (l : IsL) : IsT := fun t c => (l.find? fun e => tgEq e.1 t && clEq e.2.1 c).map (·.2.2)
def tgV (K : PySem.W.Frag) : Tg → Value
  | .bt n => .type n
  | .ins c => .ref (He.ga K c)
  | .exc c => .ref (He.ga K c)
def clV (K : PySem.W.Frag) : Cl → Value
  | .bt n => .type n
  | .own c => .ref (He.ga K c)
def tgB (K : PySem.W.Frag) : Tg → Bool
  | .bt _ => true
  | .ins c => (He.Fa.glo c).ok K && insIB K c
  | .exc c => (He.Fa.glo c).ok K && excIB K (He.ga K c)
def clB (K : PySem.W.Frag) : Cl → Bool
  | .bt _ => true
  | .own c => (He.Fa.glo c).ok K
def isB (l : IsL) (K : PySem.W.Frag) : Bool := l.all fun e => decide (PySem.W.kitOne K (tgV K e.1) (clV K e.2.1) = some e.2.2) && (tgB K e.1 && clB K e.2.1)
theorem isTb_mem {l : IsL} {t : Tg} {c : Cl} {b : Bool} (h : isTb l t c = some b) : (t, c, b) ∈ l := by
  unfold isTb at h
  obtain ⟨e, h1, h2⟩ := Option.map_eq_some_iff.mp h
  have h3 := List.mem_of_find?_eq_some h1
  have h4 := List.find?_some h1
  obtain ⟨q1, q2⟩ := He.ba h4
  have e1 := tgEq_ok q1
  have e2 := clEq_ok q2
  obtain ⟨t', c', b'⟩ := e
  simp only at e1 e2 h2
  subst e1 e2 h2
  exact h3
section
variable {fa : List He.Fa} {fn : List He.DefD} {tq : List Tq} {exs : PySem.W.Frag → List Bool} {K : PySem.W.Frag} {mg : Str → Option Value} {base : Heap}
theorem HdOk.gat (hd : HdOk fa fn tq exs K mg base) {c : Str} {C : Addr} (h : (He.Fa.glo c).ok K = true) (g : (gxOf tq K mg).cls c = some C) : C = He.ga K c := by
  have h1 := hd.gl c h
  rw [glOf_iff.mp g] at h1
  cases h1; rfl
theorem isOk (hd : HdOk fa fn tq exs K mg base) {l : IsL} (h : isB l K = true) : IsOk K (gxOf tq K mg) (isTb l) := by
  have get : ∀ {t c b}, isTb l t c = some b → PySem.W.kitOne K (tgV K t) (clV K c) = some b ∧ tgB K t = true ∧ clB K c = true := fun {t c b} e => by
    have := List.all_eq_true.mp h _ (isTb_mem e)
    obtain ⟨q1, q2⟩ := He.ba this
    obtain ⟨q2, q3⟩ := He.ba q2
    exact ⟨of_decide_eq_true q1, q2, q3⟩
  refine ⟨fun t u b vt vu e ht hu => ?_, fun c u b C e g => ?_, fun c u b C e g => ?_⟩
  · obtain ⟨q1, q2, q3⟩ := get e
    have e1 : vt = tgV K t := by
      cases ht with
      | bt n => rfl
      | ins g => exact congrArg Value.ref (hd.gat (He.ba q2).1 g)
      | exc g => exact congrArg Value.ref (hd.gat (He.ba q2).1 g)
    have e2 : vu = clV K u := by
      cases hu with
      | bt n => rfl
      | own g => exact congrArg Value.ref (hd.gat q3 g)
    rw [e1, e2]
    exact q1
  · obtain ⟨q1, q2, q3⟩ := get e
    obtain ⟨q4, q5⟩ := He.ba q2
    rw [hd.gat q4 g]
    exact insIB_ok q5
  · obtain ⟨q1, q2, q3⟩ := get e
    obtain ⟨q4, q5⟩ := He.ba q2
    rw [hd.gat q4 g]
    exact excIB_ok q5
/-! #### fields, clauses -/
def fldB (f : Str) (is es : List Str) (K : PySem.W.Frag) : Bool := (is.all fun c => (He.Fa.glo c).ok K && ((He.Fa.cls c).ok K && (He.Fa.noat c f).ok K)) && es.all fun c => (He.Fa.glo c).ok K && (excIB K (He.ga K c) && (He.Fa.noat c f).ok K)
theorem fldOk (hd : HdOk fa fn tq exs K mg base) {f : Str} {is es : List Str} (h : fldB f is es K = true) : FldOk K (gxOf tq K mg) f is es := by
  obtain ⟨h1, h2⟩ := He.ba h
  refine ⟨fun c hc C g => ?_, fun c hc C g => ?_⟩
  · obtain ⟨q1, q2⟩ := He.ba (List.all_eq_true.mp h1 c hc)
    obtain ⟨q2, q3⟩ := He.ba q2
    rw [hd.gat q1 g]
    exact ⟨He.cls_ok q2, He.noat_ok q3⟩
  · obtain ⟨q1, q2⟩ := He.ba (List.all_eq_true.mp h2 c hc)
    obtain ⟨q2, q3⟩ := He.ba q2
    rw [hd.gat q1 g]
    exact ⟨excIB_ok q2, He.noat_ok q3⟩
def catB (y : Str) (l : List (Str × Bool)) (K : PySem.W.Frag) : Bool := (He.Fa.glo y).ok K && l.all fun e => (He.Fa.glo e.1).ok K && (He.Fa.exm e.1 y e.2).ok K
theorem catOk (hd : HdOk fa fn tq exs K mg base) {y : Str} {l : List (Str × Bool)} (h : catB y l K = true) : Catches K (gxOf tq K mg) (.ref (He.ga K y)) fun x => l.lookup x := fun x C b e g => by
  obtain ⟨_, h2⟩ := He.ba h
  have hm : (x, b) ∈ l := PySem.mem_of_lookup e
  obtain ⟨q1, q2⟩ := He.ba (List.all_eq_true.mp h2 _ hm)
  rw [hd.gat q1 g]
  exact He.exm_ok q2
theorem HdOk.cat (hd : HdOk fa fn tq exs K mg base) {y : Str} {l : List (Str × Bool)} (h : catB y l K = true) : mg y = some (.ref (He.ga K y)) := hd.gl y (He.ba h).1
/-! #### errors that are made -/
def xokB (x : Str) (fs : List Str) (K : PySem.W.Frag) : Bool := (He.Fa.glo x).ok K && (oexB K (He.ga K x) && (He.eqO (PySem.W.findIn K (.ref (He.ga K x)) "__init__") (some (some (.ref (He.fAd K (x, some "__init__"))))) && (decide (PySem.W.typeIn K (.ref (He.fAd K (x, some "__init__"))) = some (.type "function")) && fs.all fun f => (He.Fa.noat x f).ok K)))
theorem excOk {P : Program} {w : World} {j : Nat} {x : Str} {fs ps : List Str} {fd : FuncData} (hd : HdOk fa fn tq exs K mg base) (h : xokB x fs K = true) (F : FnOk P w K mg base (L2.CX P w) j (He.fAd K (x, some "__init__")) fd ps (spExi K fs)) (b : Binds K fd ps []) (few : fs.length ≤ 100) : ExcOk P w K mg base (gxOf tq K mg) j x fs := by
  obtain ⟨h1, h⟩ := He.ba h
  obtain ⟨h2, h⟩ := He.ba h
  obtain ⟨h3, h⟩ := He.ba h
  obtain ⟨h4, h5⟩ := He.ba h
  have hm := hd.gl x h1
  exact ⟨⟨He.ga K x, _, fd, ps, glOf_iff.mpr hm, hm, oexB_ok h2, He.eqO_ok h3, of_decide_eq_true h4, F, b, fun f hf => He.noat_ok (List.all_eq_true.mp h5 f hf)⟩, few⟩
end
/-- __init__(self, f): self.f = f -/
theorem init1 {P : Program} {w : World} {K : PySem.W.Frag} {mg : Str → Option Value} {base : Heap} {qual g : Str} {params : Arguments} {scope : Scope} {fI : Addr} {fd : FuncData} {p1 p2 p3 p4 : Pos} (Fu : FunD K "__init__" qual params [.Assign [.Attribute (.Name "self" p1) g p2] (.Name g p3) p4] scope [] [] fI fd) (Sc : FnScope ["self", g] ["self", g] scope)
    (d1 : (g == ("__debug__" : Str)) = false) (d2 : (g == ("__classdict__" : Str)) = false) : FnOk P w K mg base (L2.CX P w) 1 fI fd ["self", g] (spExi K [g]) := by
  have vis : ∀ x ∈ (["self", g] : List Str), Vis scope x := fun x hx => by
    rcases Sc.par x hx with q | q
    · exact .inl q
    · exact .inr (.inl q)
  refine Fu.ok Sc (fun vs H Q E h => ?_) (fun cdv A outer s H vs Q E hr h => ⟨_, pss_one (ps_ost (pe_var (i := 0) rfl (vis _ List.mem_cons_self) (by decide) (by decide)) (pe_var (i := 1) rfl (vis _ (List.mem_cons_of_mem _ List.mem_cons_self)) d1 d2)), ?_⟩)
  · obtain ⟨a, C, ws, rfl, hl, _⟩ := h
    simp [hl]
  · obtain ⟨a, C, ws, rfl, hl, _, T, nof, ea, go⟩ := h
    cases ws with
    | nil => cases hl
    | cons y ws =>
      cases ws with
      | cons _ _ => cases hl
      | nil => exact ⟨y, rfl, _, rfl, a, C, rfl, T, nof g List.mem_cons_self, .inl ⟨ea, fun dx n ne => go dx n ne⟩⟩
/-! #### the end -/
def noTab (H : Hp) : Hp := fun b => match H b with
  | some (.tbl _) => none
  | o => o
theorem noTab_le {H : Hp} : Le (noTab H) H := fun b o h => by
  unfold noTab at h
  split at h
  · cases h
  · exact h
theorem noTab_at {H : Hp} {b : Addr} {o : HO} (h : H b = some o) (n : ∀ ps, o ≠ .tbl ps) : noTab H b = some o := by
  unfold noTab
  split
  · rename_i ps e
    rw [e] at h
    exact absurd (Option.some.inj h).symm (n ps)
  · exact h
theorem scr_noTab {K : PySem.W.Frag} {H : Hp} {a : Addr} {xs : List V} (h : SqL K H a xs) : SqL K (noTab H) a xs := by
  rcases h with (h | ⟨o, h⟩) | h
  · exact .inl (.inl (noTab_at h fun _ z => by cases z))
  · exact .inl (.inr ⟨o, noTab_at h fun _ z => by cases z⟩)
  · exact .inr h
theorem fz_ints {G : Gx} {Φ : Hp} : ∀ ns : List Int, FzL G Φ (ns.map V.int) (ns.map D.int)
  | [] => .nil
  | i :: ns => .cons (.int i) (fz_ints ns)
theorem law_sp {G : Gx} {mf : Fn} {H : Hp} {a : Addr} {ns : List Int} (hT : LamX.Tabs G.T H) (hS : SqL G.K H a (ns.map V.int)) (pr : ∃ out, mf [.val (.scr (ns.map D.int))] = .ok (.val (.bl true), out)) : spM G 1 mf [.ref a] H (fun v _ => v = .bl true) fun _ _ _ => False := by
  obtain ⟨out, e⟩ := pr
  have fz : Fz G (noTab H) (.ref a) (.scr (ns.map D.int)) := .scr (scr_noTab hS) (fz_ints ns)
  refine ⟨noTab H, fun _ => none, [.val (.scr (ns.map D.int))], rfl, ⟨rfl, fun s hs => ?_, Le.refl _, noTab_le, (fun b o h _ _ => h), (fun b h => h), (fun b o h => .inl h), fun p hp => ?_, ?_, hT, fun b ps z => ?_⟩, fun s hs => ?_, ?_⟩
  · cases hs with
    | head => trivial
    | tail _ h => cases h
  · cases hp with
    | head => exact ⟨_, rfl, fz⟩
    | tail _ h => cases h
  · exact List.Pairwise.cons (fun _ h => nomatch h) List.Pairwise.nil
  · unfold noTab at z
    split at z
    · cases z
    · rename_i h
      exact h ps z
  · cases hs with
    | head => trivial
    | tail _ h => cases h
  · rw [e]
    intro v H' Φ' r
    obtain ⟨x, ex, q⟩ := r.hd
    cases ex
    cases q
    rfl
/-- the walk of a law from its facts -/
theorem law_walk {l : PySem.W.OpenLaw} {n k : Nat} {q : Program} {loose : List Str} {XP : (Str → Option Value) → Heap → Prop} {d : DefRec} {x : Str} {fa : List He.Fa} {fn : List He.DefD} {ts : List He.Tab} {tq : List Tq} {exs : PySem.W.Frag → List Bool} {mf : Fn} {dl : He.DefD} {nd : Nat} (il ig : Nat)
    (hn : l.most = some n) (hn2 : n ≤ sizeLine) (hdf : d.params.defaults = []) (hr : Room k callerA) (hil : fn[il]? = some dl) (hig : fa[ig]? = some (.glo d.name)) (hat : dl.at_ = (d.name, none)) (h1 : dl.dfl = []) (h2 : dl.kwd = [])
    (hb : ∀ (kV doc pm : Value) (an : Option Addr) (cdv ct : Value) (us : List Value), us.length = [x].length → bindArgs (PySem.W.fnOf dl.name dl.qual dl.params dl.body dl.scope .none kV doc pm an cdv ct) ⟨us, []⟩ = pure ([x].zip us))
    (F : ∀ (w : World) (K : PySem.W.Frag) (mg : Str → Option Value) (base : Heap) (fd : FuncData), HdOk fa fn tq exs K mg base → FunD K dl.name dl.qual dl.params dl.body dl.scope [] [] (He.ga K d.name) fd → FnOk l.prog w K mg base (L2.CX l.prog w) k (He.ga K d.name) fd [x] (spM (gxOf tq K mg) 1 mf))
    (pure_ : ∀ ns : List Int, ns.length ≤ n → (∀ z ∈ ns, Builtin.Int.intBits z ≤ 1048576) → ∃ out, mf [.val (.scr (ns.map D.int))] = .ok (.val (.bl true), out)) :
    PySem.W.WalkO q loose XP (He.hookX nd fa fn ts (tq.map (·.1)) fun K => (exs K).all id).says l.row.toRowW d [] (fun f vs => PySem.call f vs) := by
  refine LamX.walk_ofTsE (l := l) (n := n) (k := k) (x := x) (CX := fun w => L2.CX l.prog w) hn hn2 hdf hr ?_ (fun w H s e s' h => ?_)
  · intro w mg fa0 h Y G hmg
    obtain ⟨K, KX, c⟩ := Y
    have cd : He.SaysD fa fn K := c.t.d
    have gl : ∀ x, (He.Fa.glo x).ok K = true → mg x = some (.ref (He.ga K x)) := fun x hx => He.glo_ok KX G hx
    have e0 : fa0 = He.ga K d.name := by
      have := gl _ (cd.fact ig hig)
      rw [hmg] at this
      cases this; rfl
    subst e0
    obtain ⟨fd, Fu⟩ := cd.def_ il hil
    have e1 : dl.dvs K = [] := by unfold He.DefD.dvs; rw [h1]; rfl
    have e2 : dl.kws K = [] := by unfold He.DefD.kws; rw [h2]; rfl
    have e3 : He.fAd K dl.at_ = He.ga K d.name := by rw [hat]; rfl
    rw [e1, e2, e3] at Fu
    refine ⟨K, KX, fd, tq.map fun p => He.cT K p.1, spM (gxOf tq K mg) 1 mf, fun p hp => ?_, fun p hp => ?_, fun p hp => ?_, fun s u => Fu.bindsA hb s [u] rfl, fun H a ns hl hbits hT hS => law_sp (fun p hp => ?_) hS (pure_ ns hl hbits), fun base hK hN hTB => F w K mg base fd ⟨gl, fun x hx => He.free_ok KX G hx, fun f hf => cd.facts hf, fun d hd => cd.defs hd, c.more, fun p hp => hTB _ (List.mem_map.mpr ⟨p, hp, rfl⟩), fun x u e => PySem.W.mg_of KX G e⟩ Fu⟩
    · obtain ⟨r, hr', rfl⟩ := List.mem_map.mp hp
      exact c.empty _ (List.mem_map.mpr ⟨r, hr', rfl⟩)
    · obtain ⟨r, hr', rfl⟩ := List.mem_map.mp hp
      exact c.out _ (List.mem_map.mpr ⟨r, hr', rfl⟩)
    · obtain ⟨r, hr', rfl⟩ := List.mem_map.mp hp
      exact PySem.W.codeHd_of_K KX (c.hd _ (List.mem_map.mpr ⟨r, hr', rfl⟩))
    · obtain ⟨r, hr', rfl⟩ := List.mem_map.mp hp
      exact LamX.TabS.nil (hT _ (List.mem_map.mpr ⟨r, hr', rfl⟩))
  · obtain ⟨_, _, _, _, _, _, _, _, _, _, _, _, z⟩ := h
    exact z
end Mi

/-! ### M16: rules in short -/
namespace Mi
open PySem PySem.Spec PyProof.Rows L2
theorem unitsOk {k : Nat} {A : Around} (hr : Room k A) : A.units + 64 < cLine := by
  have := hr.un
  omega
section
variable {X : Cx} {F : Fm} {W : WX} {a b c : Expr} {ma mb mc : M S} {pos : Pos} {es : List Expr} {ms : M (List S)} {x : Str} {p : Pos}
theorem x_add (ft : Fits X F W) (ha : EM X F W a ma) (hb : EM X F W b mb) : EM X F W (.BinOp a .Add b pos) (eOp fAdd ma mb) := by
  obtain ⟨r, h1, h2⟩ := o_add (F := F) (X := X) ft.K
  exact em_op h1 h2 ha hb
theorem x_sub (ha : EM X F W a ma) (hb : EM X F W b mb) : EM X F W (.BinOp a .Sub b pos) (eOp fSub ma mb) := em_op op_sub o_sub ha hb
theorem x_mul (ha : EM X F W a ma) (hb : EM X F W b mb) : EM X F W (.BinOp a .Mult b pos) (eOp fMul ma mb) := em_op op_mulB o_mul ha hb
theorem x_div (ha : EM X F W a ma) (hb : EM X F W b mb) : EM X F W (.BinOp a .FloorDiv b pos) (eOp fDiv ma mb) := em_op op_fdivA o_div ha hb
theorem x_mod (ha : EM X F W a ma) (hb : EM X F W b mb) : EM X F W (.BinOp a .Mod b pos) (eOp fMod ma mb) := em_op op_modN o_mod ha hb
theorem x_pow (ha : EM X F W a ma) (hb : EM X F W b mb) : EM X F W (.BinOp a .Pow b pos) (eOp fPow ma mb) := em_op op_powW o_pow ha hb
theorem x_neg (ha : EM X F W a ma) : EM X F W (.UnaryOp .USub a pos) (eUn fNeg ma) := em_un un_neg o_neg ha
theorem x_eq (ft : Fits X F W) (hu : X.A.units + 64 < cLine) (ha : EM X F W a ma) (hb : EM X F W b mb) : EM X F W (.Compare a [.Eq] [b] pos) (eOp fEq ma mb) := em_cmp (op_eqD hu) (o_eq ft.K) ha hb (nomark b)
theorem x_ne (ft : Fits X F W) (hu : X.A.units + 64 < cLine) (ha : EM X F W a ma) (hb : EM X F W b mb) : EM X F W (.Compare a [.NotEq] [b] pos) (eOp fNe ma mb) := em_cmp (op_neD hu) (o_ne ft.K) ha hb (nomark b)
theorem x_lt (ha : EM X F W a ma) (hb : EM X F W b mb) : EM X F W (.Compare a [.Lt] [b] pos) (eOp fLt ma mb) := em_cmp op_lt o_cmp ha hb (nomark b)
theorem x_le (ha : EM X F W a ma) (hb : EM X F W b mb) : EM X F W (.Compare a [.LtE] [b] pos) (eOp fLe ma mb) := em_cmp op_le o_cmp ha hb (nomark b)
theorem x_gt (ha : EM X F W a ma) (hb : EM X F W b mb) : EM X F W (.Compare a [.Gt] [b] pos) (eOp fGt ma mb) := em_cmp op_gt o_cmp ha hb (nomark b)
theorem x_ge (ha : EM X F W a ma) (hb : EM X F W b mb) : EM X F W (.Compare a [.GtE] [b] pos) (eOp fGe ma mb) := em_cmp op_ge o_cmp ha hb (nomark b)
theorem x_is (ha : EM X F W a ma) (hb : EM X F W b mb) : EM X F W (.Compare a [.Is] [b] pos) (eOp fIsN ma mb) := em_cmp op_isN o_isN ha hb (nomark b)
theorem x_isnt (ha : EM X F W a ma) (hb : EM X F W b mb) : EM X F W (.Compare a [.IsNot] [b] pos) (eOp fNotN ma mb) := em_cmp op_notN o_notN ha hb (nomark b)
theorem t_eq (ft : Fits X F W) (hu : X.A.units + 64 < cLine) (ha : EM X F W a ma) (hb : EM X F W b mb) : BM X F W (.Compare a [.Eq] [b] pos) (bVal (eOp fEq ma mb)) := bm_cmp (op_eqD hu) (o_eq ft.K) ha hb (nomark b)
theorem t_ne (ft : Fits X F W) (hu : X.A.units + 64 < cLine) (ha : EM X F W a ma) (hb : EM X F W b mb) : BM X F W (.Compare a [.NotEq] [b] pos) (bVal (eOp fNe ma mb)) := bm_cmp (op_neD hu) (o_ne ft.K) ha hb (nomark b)
theorem t_lt (ha : EM X F W a ma) (hb : EM X F W b mb) : BM X F W (.Compare a [.Lt] [b] pos) (bVal (eOp fLt ma mb)) := bm_cmp op_lt o_cmp ha hb (nomark b)
theorem t_le (ha : EM X F W a ma) (hb : EM X F W b mb) : BM X F W (.Compare a [.LtE] [b] pos) (bVal (eOp fLe ma mb)) := bm_cmp op_le o_cmp ha hb (nomark b)
theorem t_gt (ha : EM X F W a ma) (hb : EM X F W b mb) : BM X F W (.Compare a [.Gt] [b] pos) (bVal (eOp fGt ma mb)) := bm_cmp op_gt o_cmp ha hb (nomark b)
theorem t_ge (ha : EM X F W a ma) (hb : EM X F W b mb) : BM X F W (.Compare a [.GtE] [b] pos) (bVal (eOp fGe ma mb)) := bm_cmp op_ge o_cmp ha hb (nomark b)
theorem t_is (ha : EM X F W a ma) (hb : EM X F W b mb) : BM X F W (.Compare a [.Is] [b] pos) (bVal (eOp fIsN ma mb)) := bm_cmp op_isN o_isN ha hb (nomark b)
theorem t_isnt (ha : EM X F W a ma) (hb : EM X F W b mb) : BM X F W (.Compare a [.IsNot] [b] pos) (bVal (eOp fNotN ma mb)) := bm_cmp op_notN o_notN ha hb (nomark b)
theorem x_ix (ft : Fits X F W) (ha : EM X F W a ma) (hb : EM X F W b mb) (hs : PlainIx b := by exact fun _ _ => rfl) : EM X F W (.Subscript a b pos) (eOp fIx ma mb) := em_ix ix_seq (o_ix ft.K) ha hb hs
theorem x_len (ft : Fits X F W) (hm : X.mg "len" = none) (ha : LM X F W [a] ms) (hg : Gl X "len" := by rfl) (he : starEach [a] X.env = (false, eval a X.env) :: starEach [] X.env := by rfl) : EM X F W (.Call (.Name "len" p) [a] [] pos) (eCB fLen ms) := em_callB call_len (c_len ft.K) hm ha boot_len hg (by decide) (by decide) he rfl
theorem x_abs (hm : X.mg "abs" = none) (ha : LM X F W [a] ms) (hg : Gl X "abs" := by rfl) (he : starEach [a] X.env = (false, eval a X.env) :: starEach [] X.env := by rfl) : EM X F W (.Call (.Name "abs" p) [a] [] pos) (eCB fAbs ms) := em_callB call_abs c_abs hm ha (by decide +kernel) hg (by decide) (by decide) he rfl
theorem x_int (hm : X.mg "int" = none) (ha : LM X F W [a] ms) (hg : Gl X "int" := by rfl) (he : starEach [a] X.env = (false, eval a X.env) :: starEach [] X.env := by rfl) : EM X F W (.Call (.Name "int" p) [a] [] pos) (eCB fInt ms) := em_callTy call_int1 c_int hm ha (by decide +kernel) hg (by decide) (by decide) he rfl
theorem x_isi {tb : IsT} (ft : Fits X F W) (ok : IsOk X.K F.G tb) (hm : X.mg "isinstance" = none) (ha : LM X F W [a, b] ms) (hg : Gl X "isinstance" := by rfl) (he : starEach [a, b] X.env = (false, eval a X.env) :: starEach [b] X.env := by rfl) (hpl : (backTo pos (starEach [b] X.env)).any (·.1) = false := by rfl) : EM X F W (.Call (.Name "isinstance" p) [a, b] [] pos) (eCB (fIsi tb) ms) := em_callB call_isE (c_isi ok ft.K) hm ha (by decide +kernel) hg (by decide) (by decide) he hpl
theorem x_list (ft : Fits X F W) (hm : X.mg "list" = none) (ha : LM X F W [a] ms) (hg : Gl X "list" := by rfl) (he : starEach [a] X.env = (false, eval a X.env) :: starEach [] X.env := by rfl) : EM X F W (.Call (.Name "list" p) [a] [] pos) (eCB fList ms) := em_callTy call_list_of (c_list ft.K) hm ha (by decide +kernel) hg (by decide) (by decide) he rfl
theorem x_tuple (ft : Fits X F W) (hm : X.mg "tuple" = none) (ha : LM X F W [a] ms) (hg : Gl X "tuple" := by rfl) (he : starEach [a] X.env = (false, eval a X.env) :: starEach [] X.env := by rfl) : EM X F W (.Call (.Name "tuple" p) [a] [] pos) (eCB fTuple ms) := em_callTy call_tuple_of (c_tuple ft.K) hm ha (by decide +kernel) hg (by decide) (by decide) he rfl
theorem x_all (ft : Fits X F W) (hm : X.mg "all" = none) (ha : LM X F W [a] ms) (hg : Gl X "all" := by rfl) (he : starEach [a] X.env = (false, eval a X.env) :: starEach [] X.env := by rfl) : EM X F W (.Call (.Name "all" p) [a] [] pos) (eCB fAll ms) := em_callB (cr_all ft.calm) (c_all ft.K) hm ha (by decide +kernel) hg (by decide) (by decide) he rfl
theorem x_any (ft : Fits X F W) (hm : X.mg "any" = none) (ha : LM X F W [a] ms) (hg : Gl X "any" := by rfl) (he : starEach [a] X.env = (false, eval a X.env) :: starEach [] X.env := by rfl) : EM X F W (.Call (.Name "any" p) [a] [] pos) (eCB fAny ms) := em_callB (cr_any ft.calm) (c_any ft.K) hm ha (by decide +kernel) hg (by decide) (by decide) he rfl
theorem x_sum (ft : Fits X F W) (hm : X.mg "sum" = none) (ha : LM X F W [a] ms) (hg : Gl X "sum" := by rfl) (he : starEach [a] X.env = (false, eval a X.env) :: starEach [] X.env := by rfl) : EM X F W (.Call (.Name "sum" p) [a] [] pos) (eCB fSum ms) := em_callB (cr_sum ft.calm) (c_sum ft.K) hm ha (by decide +kernel) hg (by decide) (by decide) he rfl
theorem x_bool (hm : X.mg "bool" = none) (ha : LM X F W [a] ms) (hg : Gl X "bool" := by rfl) (he : starEach [a] X.env = (false, eval a X.env) :: starEach [] X.env := by rfl) : EM X F W (.Call (.Name "bool" p) [a] [] pos) (eCB fBool ms) := em_callTy call_bool1 c_bool hm ha (by decide +kernel) hg (by decide) (by decide) he rfl
/-- a, b, c = x, y, z with plain local names -/
def sPar3 (i j l : Nat) (ms : M (List S)) : M Fl := M.bnd ms fun ss => match ss with
  | [s, t, u] => M.bnd (give s) fun s' => M.bnd (give t) fun t' => M.bnd (give u) fun u' => fun τ => .ok (.nx, ((τ.set i s').set j t').set l u')
  | _ => fun _ => .stuck
theorem sm_par3 (i j l : Nat) {x y z : Str} {px py pz pt : Pos} {kt k2 pt2} (hc : X.calm = true) (hN : X.N.Nodup) (ha : LM X F W [a, b, c] ms) (hi : X.N[i]? = some x := by rfl) (hj : X.N[j]? = some y := by rfl) (hl : X.N[l]? = some z := by rfl) (hij : i ≠ j := by decide) (hil : i ≠ l := by decide) (hjl : j ≠ l := by decide)
    (hx : X.env.scope.names.lookup x = some .local := by rfl) (hy : X.env.scope.names.lookup y = some .local := by rfl) (hz : X.env.scope.names.lookup z = some .local := by rfl)
    (hw : swappedStores [.Tuple [.Name x px, .Name y py, .Name z pz] kt pt] (.Tuple [a, b, c] k2 pt2) X.env = pure (some [x, y, z]) := by rfl)
    (hs : swapsWithSole [.Tuple [.Name x px, .Name y py, .Name z pz] kt pt] (.Tuple [a, b, c] k2 pt2) pos.line X.env = pure false := by rfl) :
    SM X F W (.Assign [.Tuple [.Name x px, .Name y py, .Name z pz] kt pt] (.Tuple [a, b, c] k2 pt2) pos) (sPar3 i j l ms) := PS.imp (ps_par3 hc hN hi hj hl hij hil hjl hx hy hz ha hw hs) fun D σ H ⟨Φ, τ, tm, qt, r, h⟩ => tl_go r h.bnd fun ss τ1 vs H1 Φ1 p ln r1 => by
  match ss, vs, ln with
  | [], _, _ => exact p.elim
  | [_], _, _ => exact p.elim
  | [_, _], _, _ => exact p.elim
  | _ :: _ :: _ :: _ :: _, _, _ => exact p.elim
  | [s, t, u], [], ln => cases ln
  | [s, t, u], [_], ln => cases ln
  | [s, t, u], [_, _], ln => cases ln
  | [s, t, u], _ :: _ :: _ :: _ :: _, ln => cases ln
  | [s, t, u], [v, w, y], _ =>
    refine ⟨v, w, y, rfl, ?_⟩
    obtain ⟨s', τ2, Φ2, n1, r2, k1⟩ := give_cases r1 (Wp.bnd p)
    have r2' : Rl F Φ2 H1 _ τ2 ((some w, t) :: (some v, s') :: (some y, u) :: tm) := r2.air (.perm (List.Perm.swap _ _ _))
    obtain ⟨t', τ3, Φ3, n2, r3, k2⟩ := give_cases r2' (Wp.bnd k1)
    have r3' : Rl F Φ3 H1 _ τ3 ((some y, u) :: (some w, t') :: (some v, s') :: tm) := r3.air (.perm (by
      show ((some w, t') :: (some v, s') :: (some y, u) :: tm).Perm ((some y, u) :: (some w, t') :: (some v, s') :: tm)
      exact (List.Perm.cons _ (List.Perm.swap _ _ _)).trans (List.Perm.swap _ _ _)))
    obtain ⟨u', τ4, Φ4, n3, r4, k3⟩ := give_cases r3' (Wp.bnd k2)
    have r5 : Rl F Φ4 H1 _ τ4 ((some v, s') :: (some w, t') :: (some y, u') :: tm) := r4.air (.perm (by
      show ((some y, u') :: (some w, t') :: (some v, s') :: tm).Perm ((some v, s') :: (some w, t') :: (some y, u') :: tm)
      exact ((List.Perm.swap _ _ _).trans (List.Perm.cons _ (List.Perm.swap _ _ _))).trans (List.Perm.swap _ _ _)))
    have r6 := r5.store n1 (fun p hp => by
      cases hp with
      | head => exact n2
      | tail _ h =>
        cases h with
        | head => exact n3
        | tail _ h => exact qt p h) i
    have r7 := r6.store n2 (fun p hp => by
      cases hp with
      | head => exact n3
      | tail _ h => exact qt p h) j
    exact k3 _ _ _ (r7.store n3 qt l)
end
end Mi

/-! ### M17: mirrors at slots, in steps -/
namespace Mi
open PySem PySem.Spec PyProof.Rows L2
section
variable {α β : Type} (τ : List S) (m n : M Fl) (ma mb : M S) (ms : M (List S)) (c t : M Bool) (i j k : Nat) (d : D) (s : S) (ss : List S) (f : D → D → Option S) (g1 : D → Option S) (g2 : List D → Option S) (g : MG) (gs : List D → M Unit) (mf : Fn)
theorem bnd_ap (m : M α) (f : α → M β) : M.bnd m f τ = match m τ with
  | .ok (a, τ') => f a τ'
  | .exc c fs τ' => .exc c fs τ'
  | .stuck => .stuck := rfl
theorem of_ap (o : Option α) : M.of o τ = match o with
  | some a => .ok (a, τ)
  | none => .stuck := by cases o <;> rfl
theorem seq_ap : sSeq m n τ = match m τ with
  | .ok (.nx, τ') => n τ'
  | .ok (.bk, τ') => .ok (.bk, τ')
  | .ok (.ct, τ') => .ok (.ct, τ')
  | .ok (.rt s, τ') => .ok (.rt s, τ')
  | .exc c fs τ' => .exc c fs τ'
  | .stuck => .stuck := by
  unfold sSeq M.bnd
  cases m τ with
  | stuck => rfl
  | exc _ _ _ => rfl
  | ok p =>
    obtain ⟨f, τ'⟩ := p
    cases f <;> rfl
theorem asg_ap : sAsg i ma τ = (M.bnd ma fun s => M.bnd (give s) fun s' => fun τ => .ok (.nx, τ.set i s')) τ := rfl
theorem ret_ap : sRet ma τ = (M.bnd ma fun s => M.bnd (give s) fun s' => M.ret (.rt s')) τ := rfl
theorem retN_ap : sRetN τ = .ok (.rt (.val .non), τ) := rfl
theorem sif_ap : sIf c m n τ = (M.bnd c fun b => if b = true then m else n) τ := rfl
theorem expr_ap : sExpr ma τ = (M.bnd ma fun _ => M.ret .nx) τ := rfl
theorem par_ap : sPar i j ms τ = (M.bnd ms fun ss => match ss with
  | [s, t] => M.bnd (give s) fun s' => M.bnd (give t) fun t' => fun τ => .ok (.nx, (τ.set i s').set j t')
  | _ => fun _ => .stuck) τ := rfl
theorem par3_ap : sPar3 i j k ms τ = (M.bnd ms fun ss => match ss with
  | [s, t, u] => M.bnd (give s) fun s' => M.bnd (give t) fun t' => M.bnd (give u) fun u' => fun τ => .ok (.nx, ((τ.set i s').set j t').set k u')
  | _ => fun _ => .stuck) τ := rfl
theorem asgT_ap : sAsgT g ma τ = (M.bnd ma fun s => M.bnd (give s) fun s' => M.bnd (g s') fun _ => M.ret .nx) τ := rfl
theorem nil_ap : sNil τ = .ok (.nx, τ) := rfl
theorem brk_ap : sBreak τ = .ok (.bk, τ) := rfl
theorem cnt_ap : sCont τ = .ok (.ct, τ) := rfl
theorem give_val : give (.val d) τ = .ok (.val d, τ) := rfl
theorem give_own (o : O) : give (.own o) τ = .ok (.own o, τ) := rfl
theorem give_ali : give (.ali i) τ = (M.bnd (take (.ali i)) fun d => M.ret (.val d)) τ := rfl
theorem take_val : take (.val d) τ = .ok (d, τ) := rfl
theorem take_own (o : O) : take (.own o) τ = .ok (o.frz, τ) := rfl
theorem take_ali : take (.ali i) τ = match τ[i]? with
    | some (.val d) => .ok (d, τ)
    | some (.own o) => .ok (o.frz, τ.set i (.val o.frz))
    | _ => .stuck := rfl
theorem ta_nil : takeAll [] τ = .ok ([], τ) := rfl
theorem ta_cons : takeAll (s :: ss) τ = (M.bnd (take s) fun d => M.bnd (takeAll ss) fun ds => M.ret (d :: ds)) τ := rfl
theorem pk_val : peek (.val d) τ = .ok (d, τ) := rfl
theorem pk_own (o : O) : peek (.own o) τ = .ok (o.frz, τ) := rfl
theorem pk_ali : peek (.ali i) τ = match τ[i]? with
    | some (.val d) => .ok (d, τ)
    | some (.own o) => .ok (o.frz, τ)
    | some (.lent _ o) => .ok (o.frz, τ)
    | _ => .stuck := by
  unfold peek
  show (match (match τ[i]? with
    | some (.val d) => some d
    | some (.own o) => some o.frz
    | some (.lent _ o) => some o.frz
    | _ => none : Option D) with
    | some d => R.ok (d, τ)
    | none => .stuck) = _
  generalize τ[i]? = o
  cases o with
  | none => rfl
  | some s => cases s <;> rfl
theorem pa_nil' : peekAll [] τ = .ok ([], τ) := rfl
theorem pa_cons' : peekAll (s :: ss) τ = (M.bnd (peek s) fun d => M.bnd (peekAll ss) fun ds => M.ret (d :: ds)) τ := rfl
theorem var_ap : eVar i τ = match τ[i]? with
  | some (.val d) => .ok (.val d, τ)
  | some (.own _) => .ok (.ali i, τ)
  | some (.lent _ _) => .ok (.ali i, τ)
  | _ => .stuck := rfl
theorem lit_ap : eLit d τ = .ok (.val d, τ) := rfl
theorem op_ap : eOp f ma mb τ = (M.bnd ma fun s => M.bnd mb fun t => M.bnd (peek s) fun d => M.bnd (peek t) fun e => M.of (f d e)) τ := rfl
theorem un_ap : eUn g1 ma τ = (M.bnd ma fun s => M.bnd (peek s) fun d => M.of (g1 d)) τ := rfl
theorem cb_ap : eCB g2 ms τ = (M.bnd ms fun ss => M.bnd (peekAll ss) fun ds => M.of (g2 ds)) τ := rfl
theorem lc_ap : lCons ma ms τ = (M.bnd ma fun s => M.bnd ms fun ss => M.ret (s :: ss)) τ := rfl
theorem ln_ap : lNil τ = .ok ([], τ) := rfl
theorem tup_ap : eTup ms τ = (M.bnd ms fun ss => M.bnd (takeAll ss) fun ds => M.bnd (M.of (fitL ds.length)) fun _ => M.ret (.val (.tup ds))) τ := rfl
theorem lst_ap : eLst ms τ = (M.bnd ms fun ss => M.bnd (takeAll ss) fun ds => M.bnd (M.of (fitL ds.length)) fun _ => M.ret (.own (.lst ds))) τ := rfl
theorem cv_ap : eCallV mf ms τ = (M.bnd ms fun ss => M.bnd (takeAll ss) fun ds => fun τ => match mf (ds.map S.val) with
  | .ok (r, _) => .ok (r, τ)
  | .exc c fs _ => .exc c fs τ
  | .stuck => .stuck) τ := rfl
theorem ck_ap (ix : List Nat) : eCallK ix k mf ms τ = (M.bnd ms fun ss => M.bnd (takeAll ss) fun ds => fun τ => if ds.length = k then (match mf ((Mi.pick .non ix ds).map S.val) with
  | .ok (r, _) => .ok (r, τ)
  | .exc c fs _ => .exc c fs τ
  | .stuck => .stuck) else .stuck) τ := rfl
theorem cl_ap : eCallL mf ms τ = (M.bnd ms fun ss => match ss with
  | .ali k :: rest => M.bnd (takeAll rest) fun ds => fun τ => match τ[k]? with
    | some (.own o) => lendTo mf k o .own ds τ
    | some (.lent j o) => lendTo mf k o (.lent j) ds τ
    | _ => .stuck
  | _ => fun _ => .stuck) τ := rfl
theorem and_ap : eAnd ma mb τ = (M.bnd ma fun s => M.bnd (M.of (asB s)) fun b => if b = true then mb else M.ret (.val (.bl false))) τ := rfl
theorem or_ap : eOr ma mb τ = (M.bnd ma fun s => M.bnd (M.of (asB s)) fun b => if b = true then M.ret (.val (.bl true)) else mb) τ := rfl
theorem not_ap : eNot ma τ = (M.bnd ma fun s => M.bnd (M.of (asB s)) fun b => M.ret (.val (.bl !b))) τ := rfl
theorem eif_ap : eIf c ma mb τ = (M.bnd c fun b => if b = true then ma else mb) τ := rfl
theorem bval_ap : bVal ma τ = (M.bnd ma fun s => M.of (asB s)) τ := rfl
theorem bnot_ap : bNot c τ = (M.bnd c fun b => M.ret (!b)) τ := rfl
theorem band_ap : bAnd c t τ = (M.bnd c fun b => if b = true then t else M.ret false) τ := rfl
theorem bor_ap : bOr c t τ = (M.bnd c fun b => if b = true then M.ret true else t) τ := rfl
theorem gnam_ap : gNam i s τ = .ok ((), τ.set i s) := rfl
theorem gtup_ap : gTupM k gs s τ = (M.bnd (peek s) fun d => M.bnd (M.of (unpk k d)) gs) τ := rfl
theorem gend_ap : gsEnd [] τ = .ok ((), τ) := rfl
theorem gcons_ap (ds : List D) : gsCons g gs (d :: ds) τ = (M.bnd (g (.val d)) fun _ => gs ds) τ := rfl
theorem rng_ap (f : List D → Option (List D)) : iRng f ms τ = (M.bnd ms fun ss => M.bnd (peekAll ss) fun ds => M.bnd (M.of (f ds)) fun its => M.ret (its, noPin)) τ := rfl
theorem for_ap (mi : M (List D × Pin)) : sFor mi g m τ = (M.bnd mi fun p => loopM p.2 g m p.1) τ := rfl
theorem loop_nil (p : Pin) : loopM p g m [] τ = .ok (.nx, τ) := rfl
open Classical in
theorem chk_no : chk noPin τ = .ok ((), τ) := by unfold chk noPin; simp
theorem loop_cons (ds : List D) : loopM noPin g m (d :: ds) τ = match g (.val d) τ with
  | .ok (_, τ1) => (match m τ1 with
    | .ok (.nx, τ2) => loopM noPin g m ds τ2
    | .ok (.ct, τ2) => loopM noPin g m ds τ2
    | .ok (.bk, τ2) => .ok (.nx, τ2)
    | .ok (.rt s, τ2) => .ok (.rt s, τ2)
    | .exc c fs τ' => .exc c fs τ'
    | .stuck => .stuck)
  | .exc c fs τ' => .exc c fs τ'
  | .stuck => .stuck := by
  show (M.bnd (g (.val d)) fun _ => M.bnd m fun f => match f with
    | .nx => M.bnd (chk noPin) fun _ => loopM noPin g m ds
    | .ct => M.bnd (chk noPin) fun _ => loopM noPin g m ds
    | .bk => M.ret .nx
    | .rt s => M.ret (.rt s)) τ = _
  unfold M.bnd
  cases g (.val d) τ with
  | stuck => rfl
  | exc _ _ _ => rfl
  | ok p =>
    obtain ⟨u, τ1⟩ := p
    simp only
    cases m τ1 with
    | stuck => rfl
    | exc _ _ _ => rfl
    | ok q =>
      obtain ⟨f, τ2⟩ := q
      cases f <;> simp only [chk_no, M.ret]
theorem setIx_ap (mv mo mi : M S) : sSetIx mv mo mi τ = (M.bnd mv fun s => M.bnd (take s) fun d => M.bnd mo fun so => M.bnd mi fun si => M.bnd (peek si) fun i => match so with
  | .ali k => M.bnd (onL k (setD i d)) fun _ => M.ret .nx
  | _ => fun _ => .stuck) τ := rfl
theorem run_ap (np nn : Nat) : runFn np nn m ss = if ¬ ss.length = np then .stuck else match m (ss ++ List.replicate (nn - ss.length) .non) with
  | .ok (f, τ) => (match f with
    | .nx => (match back ss τ with
      | some ss' => .ok (.val .non, ss')
      | none => .stuck)
    | .rt s => if retS s = true then (match back ss τ with
      | some ss' => .ok (s, ss')
      | none => .stuck) else .stuck
    | _ => .stuck)
  | .exc c fs τ => (match back ss τ with
    | some ss' => .exc c fs ss'
    | none => .stuck)
  | .stuck => .stuck := rfl
theorem comp_nil (own : List Nat) (p : Pin) (acc : List D) : compM own p g c ma [] acc τ = .ok (acc, τ) := rfl
theorem comp_cons (own : List Nat) (ds acc : List D) : compM own noPin g c ma (d :: ds) acc τ = match g (.val d) τ with
  | .ok (_, τ1) => (match c τ1 with
    | .ok (true, τ2) => (match (M.bnd ma fun s => M.bnd (take s) fun y => M.bnd (M.of (fitL (acc.length + 1))) fun _ => M.ret y) τ2 with
      | .ok (y, τ3) => compM own noPin g c ma ds (acc ++ [y]) (wipeT own τ3)
      | .exc c fs τ' => .exc c fs τ'
      | .stuck => .stuck)
    | .ok (false, τ2) => compM own noPin g c ma ds acc (wipeT own τ2)
    | .exc c fs τ' => .exc c fs τ'
    | .stuck => .stuck)
  | .exc c fs τ' => .exc c fs τ'
  | .stuck => .stuck := by
  rw [compM]
  unfold M.bnd
  cases g (.val d) τ with
  | stuck => rfl
  | exc _ _ _ => rfl
  | ok p =>
    obtain ⟨u, τ1⟩ := p
    simp only
    cases c τ1 with
    | stuck => rfl
    | exc _ _ _ => rfl
    | ok q =>
      obtain ⟨b, τ2⟩ := q
      cases b with
      | false => simp only [chk_no, wip, Bool.false_eq_true, if_false]
      | true =>
        simp only [if_true]
        cases ma τ2 with
        | stuck => rfl
        | exc _ _ _ => rfl
        | ok r =>
          obtain ⟨s, τ3⟩ := r
          simp only
          cases take s τ3 with
          | stuck => rfl
          | exc _ _ _ => rfl
          | ok v =>
            obtain ⟨y, τ4⟩ := v
            simp only [of_ap]
            cases fitL (acc.length + 1) with
            | none => rfl
            | some _ => simp only [chk_no, wip, M.ret]
theorem ecomp_ap (own : List Nat) (mi : M (List D × Pin)) {its : List D} {τ1 : List S} (h : mi τ = .ok ((its, noPin), τ1)) (hp : own.all (fun i => plainS (τ1.getD i .non)) = true) : eComp own mi g c ma τ = match compM own noPin g c ma its [] (wipeT own τ1) with
  | .ok (ds, τ2) => if realOk (wipeT own τ1) τ2 = true then .ok (.own (.lst ds), restT own τ1 τ2) else .stuck
  | _ => .stuck := by
  unfold eComp M.bnd
  simp only [h, hp, if_true, chk_no] <;> (cases compM own noPin g c ma its [] (wipeT own τ1) <;> rfl)
theorem byes_ap : bYes τ = .ok (true, τ) := rfl
/-- a comprehension that only reads -/
theorem compM_map {own : List Nat} {h : D → D} {τ0 : List S} : ∀ (xs acc : List D), (∀ x ∈ xs, ∃ τ1 τ2 s τ3, g (.val x) τ0 = .ok ((), τ1) ∧ ma τ1 = .ok (s, τ2) ∧ take s τ2 = .ok (h x, τ3) ∧ wipeT own τ3 = τ0) → acc.length + xs.length ≤ 1000 → compM own noPin g bYes ma xs acc τ0 = .ok (acc ++ xs.map h, τ0)
  | [], acc, _, _ => by rw [comp_nil, List.map_nil, List.append_nil]
  | x :: xs, acc, hx, hl => by
    obtain ⟨τ1, τ2, s, τ3, e1, e2, e3, e4⟩ := hx x List.mem_cons_self
    have hf : fitL (acc.length + 1) = some () := by
      unfold fitL
      rw [if_pos]
      rw [List.length_cons] at hl
      rw [sizeLine_eq]
      omega
    rw [comp_cons]
    simp only [e1, byes_ap, bnd_ap, e2, e3, of_ap, hf, M.ret, e4]
    rw [compM_map xs (acc ++ [h x]) (fun y hy => hx y (List.mem_cons_of_mem _ hy)) (by rw [List.length_append, List.length_cons, List.length_nil]; rw [List.length_cons] at hl; omega)]
    rw [List.map_cons, List.append_assoc]
    rfl
theorem raise_ap (x : Str) (fs : List Str) : sRaise x fs ms τ = (M.bnd ms fun ss => M.bnd (takeAll ss) fun ds => fun τ => if ds.length = fs.length then .exc x (fs.zip ds).reverse τ else .stuck) τ := rfl
theorem try_ap (mt : Str → Option Bool) : sTry i mt m n τ = match m τ with
  | .exc c fs τ1 => (match mt c with
    | some true => (match n (τ1.set i (.val (.exc c fs))) with
      | .ok (f, τ2) => if okFl f = true then .ok (f, τ2.set i .non) else .stuck
      | _ => .stuck)
    | some false => .exc c fs τ1
    | none => .stuck)
  | r => r := rfl
theorem seqi_own (o : O) (h : ma τ = .ok (.own o, τ)) : iSeq ma τ = match items o.frz with
  | some xs => .ok ((xs, noPin), τ)
  | none => .stuck := by
  simp only [iSeq, bnd_ap, h, take_own, of_ap]
  cases items o.frz <;> rfl
theorem seqi_val (h : ma τ = .ok (.val d, τ)) : iSeq ma τ = match items d with
  | some xs => .ok ((xs, noPin), τ)
  | none => .stuck := by
  simp only [iSeq, bnd_ap, h, take_val, of_ap]
  cases items d <;> rfl
theorem seqi_var (h : τ[i]? = some (.val d)) : iSeq (eVar i) τ = match items d with
  | some xs => .ok ((xs, noPin), τ)
  | none => .stuck := seqi_val (τ := τ) (ma := eVar i) (d := d) (by simp only [var_ap, h])
end
end Mi

/-! ### M18: chains of comparisons -/
namespace Mi
open PySem PySem.Spec PyProof.Rows L2
section
variable {X : Cx} {F : Fm} {W : WX} {Φ Φ' H H' : Hp} {σ : L2.St} {τ τ' : List S} {tm : Env1} {a b c : Expr} {ma mb mc : M S} {pos : Pos}
theorem t_chain {f g : D → D → Option S} {r r' : R2} (hf : OpS F f r) (hg : OpS F g r') {Q : VK} (h : TEm F W (eChain f g ma mb mc) σ H Q) : tChain r r' (TEm F W ma) (TEm F W mb) (TEm F W mc) σ H Q := by
  obtain ⟨Φ, τ, tm, rl, h⟩ := h
  refine te_go rl h.bnd fun s τ1 v H1 Φ1 p1 r1 => te_go r1 p1.bnd fun t τ2 w H2 Φ2 p2 r2 => ?_
  obtain ⟨d, e1, p3⟩ := Wp.peek p2.bnd
  obtain ⟨e, e2, p4⟩ := Wp.peek p3.bnd
  obtain ⟨u, e3, p5⟩ := Wp.of p4.bnd
  obtain ⟨k, e4, p6⟩ := Wp.of p5.bnd
  refine hf r2 (r2.peek (r2.one (some v, s) (List.mem_append_right _ (List.mem_cons_of_mem _ List.mem_cons_self))) e1) (r2.peek r2.hd e2) e3 fun x H' Φ' r3 => ?_
  refine ⟨k, one_bl r3.hd e4, ?_⟩
  cases k with
  | false =>
    rw [if_neg Bool.false_ne_true]
    rw [if_neg Bool.false_ne_true] at p6
    exact p6 _ H' Φ' (r3.tl.tl.tl.val (.bl false))
  | true =>
    rw [if_pos rfl]
    rw [if_pos rfl] at p6
    refine te_go r3.tl p6.bnd fun t2 τ3 w2 H3 Φ3 p7 r4 => ?_
    obtain ⟨d2, e5, p8⟩ := Wp.peek p7.bnd
    obtain ⟨d3, e6, p9⟩ := Wp.peek p8.bnd
    obtain ⟨u2, e7, k2⟩ := Wp.of p9
    exact hg r4.tl.tl.tl (r4.peek (r4.one (some w, t) (List.mem_append_right _ (List.mem_cons_of_mem _ List.mem_cons_self))) e5) (r4.peek r4.hd e6) e7 fun y H4 Φ4 r5 => k2 y H4 Φ4 r5
theorem em_chain {op op' : CmpOp} {f g : D → D → Option S} {r r' : R2} (ho : OpR X (compareOp op) r) (ho' : OpR X (compareOp op') r') (hf : OpS F f r) (hg : OpS F g r') (ha : EM X F W a ma) (hb : EM X F W b mb) (hc : EM X F W c mc) (hm : lastMarks [op, op'] [b, c] = false := by with_unfolding_all rfl) :
    EM X F W (.Compare a [op, op'] [b, c] pos) (eChain f g ma mb mc) := PE.imp (pe_chain ho ho' ha hb hc hm) fun _ _ _ h => t_chain hf hg h
theorem bm_chain {op op' : CmpOp} {f g : D → D → Option S} {r r' : R2} (ho : OpR X (compareOp op) r) (ho' : OpR X (compareOp op') r') (hf : OpS F f r) (hg : OpS F g r') (ha : EM X F W a ma) (hb : EM X F W b mb) (hc : EM X F W c mc) (hm : lastMarks [op, op'] [b, c] = false := by with_unfolding_all rfl) :
    BM X F W (.Compare a [op, op'] [b, c] pos) (bVal (eChain f g ma mb mc)) := PT.imp (pt_chain ho ho' ha hb hc hm) fun σ H Q ⟨Φ, τ, tm, rl, h⟩ => by
  refine t_chain hf hg ⟨Φ, τ, tm, rl, (Wp.bnd h).mono fun s τ' p v H' Φ' r' => ?_⟩
  obtain ⟨k, e, q⟩ := Wp.of p
  exact ⟨k, one_bl r'.hd e, q H' Φ' r'.tl⟩
/-! #### constants of the module -/
def intB (x : Str) (i : Int) (K : PySem.W.Frag) : Bool := match PySem.W.nsIn K mainGlobals x with
  | some (some (.int j _)) => decide (j = i)
  | _ => false
def strB (x z : Str) (K : PySem.W.Frag) : Bool := match PySem.W.nsIn K mainGlobals x with
  | some (some (.str y _)) => decide (y = z)
  | _ => false
variable {fa : List He.Fa} {fn : List He.DefD} {tq : List Tq} {exs : PySem.W.Frag → List Bool} {x : Str}
theorem em_gint {i : Int} (hd : HdOk fa fn tq exs X.K X.mg X.base) (h : intB x i X.K = true) (hg : Gl X x := by rfl) (hdb : (x == ("__debug__" : Str)) = false := by decide) : EM X F W (.Name x pos) (eLit (.int i)) := by
  have hm : ∃ t, X.mg x = some (.int i t) := by
    unfold intB at h
    split at h
    · rename_i j t e
      have := of_decide_eq_true h
      subst this
      exact ⟨t, hd.ns _ _ e⟩
    · cases h
  obtain ⟨t, hm⟩ := hm
  exact PE.imp (pe_glob (v := .int i) hg hm ⟨t, rfl⟩ hdb) fun σ H Q ⟨Φ, τ, tm, r, h⟩ => h _ _ _ (r.val (.int i))
theorem em_gstr {z : Str} (hd : HdOk fa fn tq exs X.K X.mg X.base) (h : strB x z X.K = true) (hg : Gl X x := by rfl) (hdb : (x == ("__debug__" : Str)) = false := by decide) : EM X F W (.Name x pos) (eLit (.str z)) := by
  have hm : ∃ t, X.mg x = some (.str z t) := by
    unfold strB at h
    split at h
    · rename_i j t e
      have := of_decide_eq_true h
      subst this
      exact ⟨t, hd.ns _ _ e⟩
    · cases h
  obtain ⟨t, hm⟩ := hm
  exact PE.imp (pe_glob (v := .str z) hg hm ⟨t, rfl⟩ hdb) fun σ H Q ⟨Φ, τ, tm, r, h⟩ => h _ _ _ (r.val (.str z))
/-! #### zip, enumerate -/
def pairD (x y : D) : D := .tup [x, y]
def zipD : List D → Option (List D)
  | [.lst xs, .lst ys] => some (List.zipWith pairD xs ys)
  | [.tup xs, .tup ys] => some (List.zipWith pairD xs ys)
  | _ => none
def enumD : List D → Option (List D)
  | [.lst xs] => some (xs.zipIdx.map fun p => .tup [.int (p.2 : Nat), p.1])
  | _ => none
def iTk (f : List D → Option (List D)) (ms : M (List S)) : M (List D × Pin) := M.bnd ms fun ss => M.bnd (takeAll ss) fun ds => M.bnd (M.of (f ds)) fun its => M.ret (its, noPin)
theorem zip_at {xs ys : List D} {i : Nat} {d : D} (h : (List.zipWith pairD xs ys)[i]? = some d) : ∃ x y, xs[i]? = some x ∧ ys[i]? = some y ∧ d = .tup [x, y] := by
  rw [List.getElem?_zipWith] at h
  split at h
  · rename_i x y e1 e2
    cases h
    exact ⟨x, y, e1, e2, rfl⟩
  · cases h
theorem zip_end {xs ys : List D} {i : Nat} (h : (List.zipWith pairD xs ys).length ≤ i) : xs.length ≤ i ∨ ys.length ≤ i := by
  rw [List.length_zipWith] at h
  omega
theorem yields_zipL (hK : X.K = F.G.K) {a b : Addr} {xs ys : List D} : Yields F (Itz X.K a b) (List.zipWith pairD xs ys) [(some (.ref a), .val (.lst xs)), (some (.ref b), .val (.lst ys))] noPin := by
  intro i Φ H σ τ tm r _
  obtain ⟨_, e1, q1⟩ := r.one (some (.ref a), .val (.lst xs)) (List.mem_append_right _ List.mem_cons_self)
  obtain ⟨_, e2, q2⟩ := r.one (some (.ref b), .val (.lst ys)) (List.mem_append_right _ (List.mem_cons_of_mem _ List.mem_cons_self))
  cases e1
  cases e2
  cases q1 with
  | @lst _ vs _ h1 t1 =>
    cases q2 with
    | @lst _ ws _ h2 t2 =>
      have s1 : SqL X.K H a vs := .inl (.inl (r.le _ _ h1))
      have s2 : SqL X.K H b ws := .inl (.inl (r.le _ _ h2))
      refine ⟨fun d hd => ?_, fun hl => ⟨vs, ws, s1, s2, ?_⟩⟩
      · obtain ⟨x, y, hx, hy, rfl⟩ := zip_at hd
        obtain ⟨v, hv, fv⟩ := FzL.at t1 hx
        obtain ⟨w, hw, fw⟩ := FzL.at t2 hy
        refine ⟨⟨vs, ws, v, w, s1, s2, hv, hw⟩, fun z H2 ⟨T, v', w', ez, hT, eH, y1, y2⟩ => ?_⟩
        have e3 := y1 _ s1
        have e4 := y2 _ s2
        rw [hv] at e3
        rw [hw] at e4
        cases e3
        cases e4
        subst ez eH
        exact ⟨_, r.tuple hT (.cons fv (.cons fw .nil))⟩
      · rw [t1.length, t2.length]
        exact zip_end hl
theorem yields_zipT (hK : X.K = F.G.K) {a b : Addr} {xs ys : List D} : Yields F (RZ.ItzT X.K a b) (List.zipWith pairD xs ys) [(some (.ref a), .val (.tup xs)), (some (.ref b), .val (.tup ys))] noPin := by
  intro i Φ H σ τ tm r _
  obtain ⟨_, e1, q1⟩ := r.one (some (.ref a), .val (.tup xs)) (List.mem_append_right _ List.mem_cons_self)
  obtain ⟨_, e2, q2⟩ := r.one (some (.ref b), .val (.tup ys)) (List.mem_append_right _ (List.mem_cons_of_mem _ List.mem_cons_self))
  cases e1
  cases e2
  cases q1 with
  | @tup _ vs _ h1 t1 =>
    cases q2 with
    | @tup _ ws _ h2 t2 =>
      have s1 : SqT X.K H a vs := by rw [hK]; exact SqT.le h1 r.le
      have s2 : SqT X.K H b ws := by rw [hK]; exact SqT.le h2 r.le
      refine ⟨fun d hd => ?_, fun hl => ⟨vs, ws, s1, s2, ?_⟩⟩
      · obtain ⟨x, y, hx, hy, rfl⟩ := zip_at hd
        obtain ⟨v, hv, fv⟩ := FzL.at t1 hx
        obtain ⟨w, hw, fw⟩ := FzL.at t2 hy
        refine ⟨⟨vs, ws, v, w, s1, s2, hv, hw⟩, fun z H2 ⟨T, v', w', ez, hT, eH, y1, y2⟩ => ?_⟩
        have e3 := y1 _ s1
        have e4 := y2 _ s2
        rw [hv] at e3
        rw [hw] at e4
        cases e3
        cases e4
        subst ez eH
        exact ⟨_, r.tuple hT (.cons fv (.cons fw .nil))⟩
      · rw [t1.length, t2.length]
        exact zip_end hl
theorem yields_enum (hK : X.K = F.G.K) {a : Addr} {xs : List D} : Yields F (Ite X.K a) (xs.zipIdx.map fun p => .tup [.int (p.2 : Nat), p.1]) [(some (.ref a), .val (.lst xs))] noPin := by
  intro i Φ H σ τ tm r _
  obtain ⟨_, e1, q1⟩ := r.one (some (.ref a), .val (.lst xs)) (List.mem_append_right _ List.mem_cons_self)
  cases e1
  cases q1 with
  | @lst _ vs _ h1 t1 =>
    have s1 : SqL X.K H a vs := .inl (.inl (r.le _ _ h1))
    refine ⟨fun d hd => ?_, fun hl => ⟨vs, s1, ?_⟩⟩
    · rw [List.getElem?_map, List.getElem?_zipIdx] at hd
      obtain ⟨p, hp, rfl⟩ := Option.map_eq_some_iff.mp hd
      obtain ⟨x, hx, rfl⟩ := Option.map_eq_some_iff.mp hp
      obtain ⟨v, hv, fv⟩ := FzL.at t1 hx
      refine ⟨⟨vs, v, s1, hv⟩, fun z H2 ⟨T, v', ez, hT, eH, y1⟩ => ?_⟩
      have e3 := y1 _ s1
      rw [hv] at e3
      cases e3
      subst ez eH
      have := r.tuple (vs := [.int (i : Nat), v]) (ds := [.int (i : Nat), x]) hT (.cons (.int _) (.cons fv .nil))
      rw [Nat.zero_add]
      exact ⟨_, this⟩
    · rw [List.length_map, List.length_zipIdx] at hl
      rw [t1.length]
      exact hl
theorem im_zip {e e2 : Expr} {ms : M (List S)} {p pos tpos : Pos} {elts : List Expr} {kk : Nat} (ft : Fits X F W) (hm : X.mg "zip" = none) (ha : LM X F W [e, e2] ms) (hg : Gl X "zip" := by rfl) (hs : starEach [e, e2] X.env = (false, eval e X.env) :: starEach [e2] X.env := by rfl) (hpl : (backTo pos (starEach [e2] X.env)).any (·.1) = false := by rfl) :
    IM X F W (.Tuple elts kk tpos) (.Call (.Name "zip" p) [e, e2] [] pos) (iTk zipD ms) := PI.imp (RZ.pi_zipA hg hm ha hs hpl) fun σ H Rr ⟨Φ, τ, tm, r, h⟩ => tl_go r (Wp.bnd h) fun ss τ1 vs H1 Φ1 p1 l r1 => by
  obtain ⟨ds, τ2, e3, p2⟩ := takeAll_cases (Wp.bnd p1)
  obtain ⟨Φ2, r2, q⟩ := Rl.takenAll l r1 e3
  obtain ⟨its, e4, k⟩ := Wp.of (Wp.bnd p2)
  unfold zipD at e4
  split at e4
  · rename_i xs ys
    cases e4
    cases q with
    | cons qa q =>
      cases q with
      | cons qb q =>
        cases q
        have r3 := (r2.val qb).val qa
        cases qa with
        | lst h1 t1 =>
          cases qb with
          | lst h2 t2 =>
            exact ⟨_, _, _, _, rfl, .inl ⟨.inl (.inl (r2.le _ _ h1)), .inl (.inl (r2.le _ _ h2)), k _ H1 Φ2 _ (fun z hz => by
              cases hz with
              | head => trivial
              | tail _ hz =>
                cases hz with
                | head => trivial
                | tail _ hz => cases hz) r3 trivial (yields_zipL ft.K)⟩⟩
  · rename_i xs ys
    cases e4
    cases q with
    | cons qa q =>
      cases q with
      | cons qb q =>
        cases q
        have r3 := (r2.val qb).val qa
        cases qa with
        | tup h1 t1 =>
          cases qb with
          | tup h2 t2 =>
            exact ⟨_, _, _, _, rfl, .inr ⟨by rw [ft.K]; exact SqT.le h1 r2.le, by rw [ft.K]; exact SqT.le h2 r2.le, k _ H1 Φ2 _ (fun z hz => by
              cases hz with
              | head => trivial
              | tail _ hz =>
                cases hz with
                | head => trivial
                | tail _ hz => cases hz) r3 trivial (yields_zipT ft.K)⟩⟩
  · cases e4
theorem im_enum {e : Expr} {ms : M (List S)} {p pos tpos : Pos} {elts : List Expr} {kk : Nat} (ft : Fits X F W) (hm : X.mg "enumerate" = none) (ha : LM X F W [e] ms) (hg : Gl X "enumerate" := by rfl) (hs : starEach [e] X.env = [(false, eval e X.env)] := by rfl) :
    IM X F W (.Tuple elts kk tpos) (.Call (.Name "enumerate" p) [e] [] pos) (iTk enumD ms) := PI.imp (pi_enum hg hm ha hs) fun σ H Rr ⟨Φ, τ, tm, r, h⟩ => tl_go r (Wp.bnd h) fun ss τ1 vs H1 Φ1 p1 l r1 => by
  obtain ⟨ds, τ2, e3, p2⟩ := takeAll_cases (Wp.bnd p1)
  obtain ⟨Φ2, r2, q⟩ := Rl.takenAll l r1 e3
  obtain ⟨its, e4, k⟩ := Wp.of (Wp.bnd p2)
  unfold enumD at e4
  split at e4
  · rename_i xs
    cases e4
    cases q with
    | cons qa q =>
      cases q
      have r3 := r2.val qa
      cases qa with
      | lst h1 t1 => exact ⟨_, _, rfl, .inl (.inl (r2.le _ _ h1)), k _ H1 Φ2 _ quiet_one r3 trivial (yields_enum ft.K)⟩
  · cases e4
end
end Mi

/-! ### M19: instances made, their fields stored, their methods called -/
namespace Mi
open PySem PySem.Spec PyProof.Rows L2
section
variable {X : Cx} {F : Fm} {W : WX} {Φ Φ' H H' : Hp} {σ : L2.St} {τ τ' : List S} {tm : Env1} {e o : Expr} {mv mo : M S} {pos tpos : Pos} {f x : Str}
theorem FzF.length {G : Gx} : ∀ {vs : List (Str × V)} {ds : List (Str × D)}, FzF G Φ vs ds → vs.length = ds.length
  | _, _, .nil => rfl
  | _, _, .cons _ t => by rw [List.length_cons, List.length_cons, FzF.length t]
theorem FzF.put {G : Gx} {v : V} {d : D} (f : Str) (h : Fz G Φ v d) : ∀ {vs : List (Str × V)} {ds : List (Str × D)}, FzF G Φ vs ds → FzF G Φ (putF f v vs) (putD f d ds)
  | _, _, .nil => .cons h .nil
  | _, _, .cons (f := g) q t => by
    unfold putF putD
    by_cases e : g = f
    · rw [if_pos e, if_pos e]; exact .cons h t
    · rw [if_neg e, if_neg e]; exact .cons q (FzF.put f h t)
/-- classes whose instances take the field f -/
structure SetOk (K : PySem.W.Frag) (G : Gx) (f : Str) (cs : List Str) : Prop where
  ok : ∀ c ∈ cs, ∀ C, G.cls c = some C → Cls K C ∧ NoAttr K C f
def onI (k : Nat) (f : Str) (cs : List Str) (d : D) : M Unit := fun τ => match τ[k]? with
  | some (.own (.ins c fs)) => if cs.contains c = true ∧ fs.length < 1000 then .ok ((), τ.set k (.own (.ins c (putD f d fs)))) else .stuck
  | some (.lent j (.ins c fs)) => if cs.contains c = true ∧ fs.length < 1000 then .ok ((), τ.set k (.lent j (.ins c (putD f d fs)))) else .stuck
  | _ => .stuck
def sSetF (f : Str) (cs : List Str) (mv mo : M S) : M Fl := M.bnd mv fun s => M.bnd (take s) fun d => M.bnd mo fun so => match so with
  | .ali k => M.bnd (onI k f cs d) fun _ => M.ret .nx
  | _ => fun _ => .stuck
theorem onI_cases {tm0 : Env1} {k : Nat} {cs : List Str} {d : D} {K : Unit → List S → Prop} (r : Rl F Φ H σ τ tm) (h : Wp F W tm0 (onI k f cs d τ) K) : ∃ a C dx vs c fs s s', σ[k]? = some (some (.ref a)) ∧ H a = some (.ins C dx vs) ∧ F.G.cls c = some C ∧ FzF F.G Φ vs fs ∧ cs.contains c = true ∧ fs.length < 1000 ∧ Kin s s' (.ins c fs) (.ins c (putD f d fs)) ∧ τ[k]? = some s ∧ K () (τ.set k s') := by
  unfold onI at h
  cases e : τ[k]? with
  | none => rw [e] at h; exact h.elim
  | some s =>
    rw [e] at h
    obtain ⟨v, e1, _, o⟩ := r.at e
    cases s with
    | own ob =>
      cases ob with
      | lst _ => exact h.elim
      | ins c fs =>
        simp only at h
        split at h
        · rename_i q
          obtain ⟨a, e2, ⟨C, dx, vs, hs, g, t⟩, _⟩ := o
          subst e2
          exact ⟨a, C, dx, vs, c, fs, _, _, e1, hs, g, t, q.1, q.2, .own _ _, rfl, h⟩
        · exact h.elim
    | lent j ob =>
      cases ob with
      | lst _ => exact h.elim
      | ins c fs =>
        simp only at h
        split at h
        · rename_i q
          obtain ⟨a, e2, ⟨C, dx, vs, hs, g, t⟩, _⟩ := o
          subst e2
          exact ⟨a, C, dx, vs, c, fs, _, _, e1, hs, g, t, q.1, q.2, .lent j _ _, rfl, h⟩
        · exact h.elim
    | raw => exact h.elim
    | non => exact h.elim
    | val _ => exact h.elim
    | ali _ => exact h.elim
theorem sm_setF {cs : List Str} (so : SetOk X.K F.G f cs) (hv : EM X F W e mv) (ho : EM X F W o mo) (hs : swapsWith e (some (.Attribute o f tpos)) pos.line X.env = pure false := by rfl) :
    SM X F W (.Assign [.Attribute o f tpos] e pos) (sSetF f cs mv mo) := PS.imp (ps_fld ho hv hs) fun D σ H ⟨Φ, τ, tm, qt, r, h⟩ => te_go r (Wp.bnd h) fun s τ1 v H1 Φ1 p1 r1 => by
  obtain ⟨d, τ2, e1, p2⟩ := take_cases (Wp.bnd p1)
  obtain ⟨Φ2, r2⟩ := Rl.taken r1 e1
  refine te_go r2 (Wp.bnd p2) fun s3 τ3 ov H3 Φ3 p3 r3 => ?_
  cases s3 with
  | ali k =>
    obtain ⟨x, s', e3, es, _⟩ := r3.hd
    cases e3
    obtain ⟨y, e4, fy⟩ := r3.tl.hd
    cases e4
    obtain ⟨a, C, dx, vs, c, fs, s, s2, es', hs', g, t, q1, q2, ks, eτ, k2⟩ := onI_cases r3 (Wp.bnd p3)
    rw [es] at es'
    cases es'
    obtain ⟨c1, c2⟩ := so.ok c (by simpa using q1) C g
    refine ⟨a, C, dx, vs, rfl, hs', c1, c2, by rw [t.length]; exact q2, ?_⟩
    have r5 := r3.tl.tl.wrote (u' := .ins C dx (putF f v vs)) eτ es ks hs' (fun _ z => by cases z) (fun _ z => by cases z) ⟨C, dx, _, upd_same, g, FzF.put f fy t⟩
    exact k2 _ _ _ r5
  | _ => exact p3.elim
/-! #### C(e, ..) -/
theorem run_mk {CX : CXT} {k : Nat} {fi C : Addr} {fd : FuncData} {ps : List Str} {sp : Sp} {E : XK} {pins : List (Addr × Obj)} {s : Shared} {Q : VK} {us : List Value} {vs : List V} (Mc : Mk X.K C fi) (Ok : FnOk X.prog X.w X.K X.mg X.base CX k fi fd ps sp) (room : Room (k + 1) X.A) (bd : Binds X.K fd ps [])
    (out : PassesAt CX X σ E) (In : Inv X pins σ H s) (rv : Vals vs us) (go : ∀ x dx, H x = none → H dx = none → dx ≠ x → sp (.ref x :: vs) (upd (upd H dx (.own x)) x (.ins C dx [])) (fun v H2 => v = .non ∧ Q (.ref x) H2) E) :
    wpAny (model X.prog X.w) X.A (call (.ref C) us) (EP X pins σ Q) X.xe s := by
  have g1 := go (s.heap.objs.size + 1) s.heap.objs.size (In.hok.fresh (Nat.le_succ _)) (In.hok.fresh (Nat.le_refl _)) (Nat.ne_of_lt (Nat.lt_succ_self _))
  have In2 := Inv.made (C := C) In
  have rv2 : Vals (V.ref (s.heap.objs.size + 1) :: vs) (Value.ref (s.heap.objs.size + 1) :: us) := .cons rfl rv
  have ln : (Value.ref (s.heap.objs.size + 1) :: us ++ []).length = ps.length := by
    rw [List.append_nil, ← rv2.length]
    exact Ok.len _ _ _ _ g1
  have bd2 := bd _ (Value.ref (s.heap.objs.size + 1) :: us) In2.kIn ln
  rw [List.append_nil] at bd2
  refine wpAny_call (make_map (f := fi) In.kIn Mc.makes Mc.init (beq_iff_eq.mp Mc.fn) (codeAny_mono (Ok.run _ X.stack _ _ ⟨Value.ref (s.heap.objs.size + 1) :: us, []⟩ (Value.ref (s.heap.objs.size + 1) :: us) _ _ E (room.make C us []) (In2.env0.make C us []) bd2 rv2 g1) fun r s' hq => ?_))
  cases r with
  | error e => exact out pins _ _ e s' In2 hq
  | ok fl =>
    cases fl with
    | ret u =>
      obtain ⟨v, H', In3, r3, ev, q3⟩ := In2.after hq
      subst ev
      exact ⟨r3, ⟨V.ref (s.heap.objs.size + 1), H', In3, rfl, q3⟩⟩
    | next => exact False.elim hq
    | brk => exact False.elim hq
    | cont => exact False.elim hq
structure MakOk (P : Program) (w : World) (K : PySem.W.Frag) (mg : Str → Option Value) (base : Heap) (G : Gx) (k : Nat) (c : Str) (n : Nat) (mf : Fn) : Prop where
  ex : ∃ C f fd ps, G.cls c = some C ∧ mg c = some (.ref C) ∧ Mk K C f ∧ FnOk P w K mg base (L2.CX P w) k f fd ps (spM G n mf) ∧ Binds K fd ps []
  ar : ∀ ss, mf ss ≠ .stuck → ss.length = n
def eMake (c : Str) (mf : Fn) (ms : M (List S)) : M S := M.bnd ms fun ss => M.bnd (takeAll ss) fun ds => fun τ => match mf (.lent 0 (.ins c []) :: ds.map S.val) with
  | .ok (.val .non, .lent _ o :: _) => .ok (.own o, τ)
  | .exc cc fs _ => .exc cc fs τ
  | _ => .stuck
variable {a : Expr} {es : List Expr} {ms : M (List S)} {p : Pos} {k n : Nat} {mf : Fn} {c : Str}
theorem t_make {C : Addr} {Q : VK} (g : F.G.cls c = some C) (hn : ∀ ss, mf ss ≠ .stuck → ss.length = n) (h : TEm F W (eMake c mf ms) σ H Q) : TLm F W ms σ H fun vs H1 => ∀ x dx, H1 x = none → H1 dx = none → dx ≠ x → spM F.G n mf (.ref x :: vs) (upd (upd H1 dx (.own x)) x (.ins C dx [])) (fun v H2 => v = .non ∧ Q (.ref x) H2) (WE W σ) := by
  obtain ⟨Φ, τ, tm, rl, h⟩ := h
  refine tl_go rl h.bnd fun ss τ1 vs H1 Φ1 p1 l r1 x dx hx hdx ne => ?_
  obtain ⟨ds, τ2, e, p2⟩ := takeAll_cases (Wp.bnd p1)
  obtain ⟨Φ2, r2, q⟩ := Rl.takenAll l r1 e
  have nx : upd H1 dx (.own x) x = none := by rw [upd_ne (Ne.symm ne)]; exact hx
  have r3 : Rl F Φ2 (upd (upd H1 dx (.own x)) x (.ins C dx [])) σ τ2 tm := (r2.beside hdx).beside nx
  have ow : Ow F.G Φ2 (upd (upd H1 dx (.own x)) x (.ins C dx [])) x (.ins c []) := ⟨C, dx, [], upd_same, g, .nil⟩
  have fx : Φ2 x = none := r2.fre hx
  have ent := r3.enter1 q ow fx
  have ne' : mf (.lent 0 (.ins c []) :: ds.map S.val) ≠ .stuck := fun z => by
    rw [z] at p2
    exact p2
  have there : ∀ {b : Addr} {u : HO}, H1 b = some u → upd (upd H1 dx (.own x)) x (.ins C dx []) b = some u := fun {b u} hb => by
    rw [upd_ne (ne_of_none hb hx), upd_ne (ne_of_none hb hdx)]
    exact hb
  have back : ∀ {Φ' H' : Hp} {out : List S} {tmc : Env1}, Rl ⟨F.G, Φ2, upd (upd H1 dx (.own x)) x (.ins C dx []), fun n => if n = 0 then some x else none, none⟩ Φ' H' ((V.ref x :: vs).map some) out tmc → Rl F Φ' H' σ τ2 tm := fun {Φ' H' out tmc} cc =>
    r2.grow cc.le0 cc.le (fun b o hb h2 => cc.pres b o (there hb) (fun j z => by
      by_cases hj : j = 0
      · have z' : some x = some b := by rw [← z]; exact (if_pos hj).symm
        cases z'
        rw [hx] at hb; cases hb
      · have z' : none = some b := by rw [← z]; exact (if_neg hj).symm
        cases z') h2) (fun b o hb => (cc.new b o hb).imp id fun z => none_upd b (none_upd b z)) cc.tabs fun b hb => none_upd b (none_upd b (cc.dom b hb))
  refine ⟨Φ2, _, .lent 0 (.ins c []) :: ds.map S.val, hn _ ne', ent, fun s hs => ?_, ?_⟩
  · rcases List.mem_cons.mp hs with e | hs
    · rw [e]; trivial
    · obtain ⟨d, _, e⟩ := List.mem_map.mp hs
      rw [← e]; trivial
  · cases hm : mf (.lent 0 (.ins c []) :: ds.map S.val) with
    | stuck => exact ne' hm
    | exc cc fs out =>
      rw [hm] at p2
      intro cls d H' Φ' c1 xr
      exact p2 cls d σ H' Φ' (back c1) xr
    | ok pr =>
      obtain ⟨r', out⟩ := pr
      rw [hm] at p2
      intro v H' Φ' c1
      cases r' with
      | val d =>
        cases d with
        | non =>
          cases out with
          | nil => exact p2.elim
          | cons s0 out =>
            cases s0 with
            | lent j o' =>
              obtain ⟨y, ev, fv⟩ := c1.hd
              cases ev
              cases fv
              refine ⟨rfl, ?_⟩
              have r4 := back c1
              have o1 : One ⟨F.G, Φ2, upd (upd H1 dx (.own x)) x (.ins C dx []), fun n => if n = 0 then some x else none, none⟩ Φ' H' ((V.ref x :: vs).map some) (.lent j o' :: out) (some (.ref x), .lent j o') := c1.one _ (List.mem_append_left _ (by
                show _ ∈ ((some (V.ref x)) :: vs.map some).zip (.lent j o' :: out)
                exact List.mem_cons_self))
              obtain ⟨b, eb, w2, fb, _⟩ := o1
              cases eb
              refine p2 (.ref x) H' Φ' (r4.put (p := (some (.ref x), .own o')) ⟨x, rfl, w2, fb, r2.dom x hx⟩ fun z hz b hb hq => ?_)
              cases hb
              exact r2.there z hz x hq hx
            | _ => exact p2.elim
        | _ => exact p2.elim
      | _ => exact p2.elim
theorem em_make (ft : Fits X F W) (hr : Room (k + 1) X.A) (mo : MakOk X.prog X.w X.K X.mg X.base F.G k c n mf) (ha : LM X F W (a :: es) ms) (hg : Gl X c := by rfl) (hdb : (c == ("__debug__" : Str)) = false := by decide) (he : starEach (a :: es) X.env = (false, eval a X.env) :: starEach es X.env := by rfl) (hpl : (backTo pos (starEach es X.env)).any (·.1) = false := by rfl) :
    EM X F W (.Call (.Name c p) (a :: es) [] pos) (eMake c mf ms) := by
  obtain ⟨C, f, fd, ps, g, gm, Mc, Ok, b⟩ := mo.ex
  refine ⟨fun pins s σ H Q I h => ?_⟩
  refine wpAny_Call_Name_kw (ld_glob I hg gm ?_ hdb)
  refine PySem.W.callWith_K (h₀ := X.base) I.ok.mod.kin Mc.kp (thn (ha.run pos pins s σ H _ I (t_make g mo.ar h)) fun us s1 ⟨vs, H1, I1, r, q⟩ => ⟨I1.kIn, ?_⟩) he hpl
  exact run_mk Mc Ok hr b (passAt ft.tk σ) I1 r q
/-! #### o.m(e, ..) -/
/-- a call all of whose arguments are plain -/
theorem sp_plain {vs : List V} {ds : List D} {Q : VK} (pr : Proper mf) (hn : ∀ ss, mf ss ≠ .stuck → ss.length = n) (r : Rl F Φ H σ τ tm) (q : FzL F.G Φ vs ds) (h : Wp F W tm (match mf (ds.map S.val) with
    | .ok (r, _) => .ok (r, τ)
    | .exc c fs _ => .exc c fs τ
    | .stuck => .stuck) fun s τ' => ∀ v H' Φ', Rl F Φ' H' σ τ' ((some v, s) :: tm) → Q v H') : spM F.G n mf vs H Q (WE W σ) := by
  have ne : mf (ds.map S.val) ≠ .stuck := fun z => by
    rw [z] at h
    exact h
  refine ⟨Φ, fun _ => none, ds.map S.val, hn _ ne, r.enter0 q, fun s hs => ?_, ?_⟩
  · obtain ⟨d, _, e⟩ := List.mem_map.mp hs
    rw [← e]; trivial
  · cases hm : mf (ds.map S.val) with
    | stuck => exact ne hm
    | ok p =>
      obtain ⟨r', out⟩ := p
      rw [hm] at h
      intro v H' Φ' c
      have r3 := r.after0 c fun _ => rfl
      exact h v H' Φ' (r3.handed (H := H) (P := fun _ => none) r.dom (fun p hp a ha => r.there p hp a ha) c.hd (pr _ _ _ hm))
    | exc c fs out =>
      rw [hm] at h
      intro cls d H' Φ' c1 x
      exact h cls d σ H' Φ' (r.after0 c1 fun _ => rfl) x
/-- a method of some classes: by class, its mirror -/
structure MetOk (P : Program) (w : World) (K : PySem.W.Frag) (mg : Str → Option Value) (base : Heap) (G : Gx) (k : Nat) (m : Str) (n : Nat) (tab : Str → Option Fn) : Prop where
  ex : ∀ c mf, tab c = some mf → ∀ C, G.cls c = some C → ∃ f fd ps, Cls K C ∧ Meth K C m f ∧ FnOk P w K mg base (L2.CX P w) k f fd ps (spM G n mf) ∧ Binds K fd ps []
  pr : ∀ c mf, tab c = some mf → Proper mf
  ar : ∀ c mf, tab c = some mf → ∀ ss, mf ss ≠ .stuck → ss.length = n
def norm (s : S) : M S := match s with
  | .own o => M.bnd (take (.own o)) fun d => M.ret (.val d)
  | s => M.ret s
/-- the instance that a method is looked up in -/
def insAt (τ : List S) : S → Option (Str × List (Str × D))
  | .val (.ins c fs) => some (c, fs)
  | .ali k => (match τ[k]? with
    | some (.val (.ins c fs)) => some (c, fs)
    | some (.own (.ins c fs)) => some (c, fs)
    | some (.lent _ (.ins c fs)) => some (c, fs)
    | _ => none)
  | _ => none
def onMeth (mf : Fn) (s : S) (ss : List S) : M S := match s with
  | .val d => M.bnd (takeAll ss) fun ds => fun τ => match mf ((d :: ds).map S.val) with
    | .ok (r, _) => .ok (r, τ)
    | .exc c fs _ => .exc c fs τ
    | .stuck => .stuck
  | .ali k => M.bnd (takeAll ss) fun ds => fun τ => match τ[k]? with
    | some (.own o) => lendTo mf k o .own ds τ
    | some (.lent j o) => lendTo mf k o (.lent j) ds τ
    | _ => .stuck
  | _ => fun _ => .stuck
def eMeth (m : Str) (tab : Str → Option Fn) (mo : M S) (ms : M (List S)) : M S := M.bnd mo fun s0 => M.bnd (norm s0) fun s => fun τ => match insAt τ s with
  | some (c, fs) => (match tab c, fs.lookup m with
    | some mf, none => (M.bnd ms fun ss => onMeth mf s ss) τ
    | _, _ => .stuck)
  | none => .stuck
theorem insAt_ok {v : V} {s : S} {c : Str} {fs : List (Str × D)} (r : Rl F Φ H σ τ tm) (h : One F Φ H σ τ (some v, s)) (e : insAt τ s = some (c, fs)) : ∃ a C dx vs, v = .ref a ∧ H a = some (.ins C dx vs) ∧ F.G.cls c = some C ∧ FzF F.G Φ vs fs := by
  cases s with
  | val d =>
    cases d with
    | ins c' fs' =>
      cases e
      obtain ⟨x, ex, q⟩ := h
      cases ex
      cases q with
      | ins q1 q2 q3 => exact ⟨_, _, _, _, rfl, r.le _ _ q1, q2, q3⟩
    | _ => cases e
  | ali k =>
    obtain ⟨x, s', e1, e2, e3, _⟩ := h
    cases e1
    simp only [insAt, e3] at e
    obtain ⟨w, e4, _, q⟩ := r.at e3
    rw [e2] at e4
    cases e4
    cases s' with
    | val d =>
      cases d with
      | ins c' fs' =>
        cases e
        obtain ⟨y, ey, q⟩ := q
        cases ey
        cases q with
        | ins q1 q2 q3 => exact ⟨_, _, _, _, rfl, r.le _ _ q1, q2, q3⟩
      | _ => cases e
    | own o =>
      cases o with
      | ins c' fs' =>
        cases e
        obtain ⟨a, ea, ⟨C, dx, vs, q1, q2, q3⟩, _⟩ := q
        cases ea
        exact ⟨a, C, dx, vs, rfl, q1, q2, q3⟩
      | lst _ => cases e
    | lent j o =>
      cases o with
      | ins c' fs' =>
        cases e
        obtain ⟨a, ea, ⟨C, dx, vs, q1, q2, q3⟩, _⟩ := q
        cases ea
        exact ⟨a, C, dx, vs, rfl, q1, q2, q3⟩
      | lst _ => cases e
    | _ => cases e
  | _ => cases e
theorem pe_methA {m : Str} {pl : Sem Bool} {apos : Pos} {ta : L2.TE} {t : L2.TA} (he : PE X o ta) (room : Room k X.A) (tk : Takes X W) (ha : PA X (a :: es) t)
    (hst : starEach (a :: es) X.env = (false, eval a X.env) :: starEach es X.env) (hpl : (backTo pos (starEach es X.env)).any (·.1) = false)
    (ht : eval (.Call (.Attribute o m apos) (a :: es) [] pos) X.env = (do
      let ov ← eval o X.env
      standAt apos.atName
      let (f, first) ← holding [ov] (getMethod ov m pl)
      callWith pos f first (backTo pos (starEach (a :: es) X.env)) (backToKw pos (keywordEach [] X.env)))) :
    PE X (.Call (.Attribute o m apos) (a :: es) [] pos) (fun σ H Q => ta σ H fun x H1 => ∃ b C dx fs f fd ps sp, x = .ref b ∧ H1 b = some (.ins C dx fs) ∧ fs.lookup m = none ∧ Cls X.K C ∧ Meth X.K C m f ∧ FnOk X.prog X.w X.K X.mg X.base (L2.CX X.prog X.w) k f fd ps sp ∧ Binds X.K fd ps [] ∧ t σ H1 fun vs H2 => sp (x :: vs) H2 Q (WE W σ)) := by
  refine ⟨fun pins s σ H Q In h => ?_⟩
  refine PySem.W.methodCall_KW (pl := pl) (thn (he.run pins s σ H _ In h) fun u s1 ⟨x, H1, In1, rx, b, C, dx, fs, f, fd, ps, sp, ex, eb, l, c, hm, Ok, bd, q⟩ => ?_) ht
  subst ex
  obtain rfl : u = Value.ref b := rx
  refine getmeth_ok In1 eb c hm l ?_
  refine PySem.W.callWith_K (first := [.ref b]) (h₀ := X.base) In.ok.mod.kin hm.kp (thn (ha.run pos pins s1 σ H1 _ In1 q) fun us s2 ⟨vs, H2, In2, r, q2⟩ => ⟨In2.kIn, ?_⟩) hst hpl
  exact run_fnSD (E := WE W) (us := .ref b :: us) (vs := .ref b :: vs) Ok room bd .nil (passAt tk σ) In2 (.cons rfl r) (by rw [List.append_nil]; exact q2)
theorem pe_methA0 {m : Str} {pl : Sem Bool} {apos : Pos} {ta : L2.TE} (he : PE X o ta) (room : Room k X.A) (tk : Takes X W)
    (ht : eval (.Call (.Attribute o m apos) [] [] pos) X.env = (do
      let ov ← eval o X.env
      standAt apos.atName
      let (f, first) ← holding [ov] (getMethod ov m pl)
      callWith pos f first (backTo pos (starEach [] X.env)) (backToKw pos (keywordEach [] X.env)))) :
    PE X (.Call (.Attribute o m apos) [] [] pos) (fun σ H Q => ta σ H fun x H1 => ∃ b C dx fs f fd ps sp, x = .ref b ∧ H1 b = some (.ins C dx fs) ∧ fs.lookup m = none ∧ Cls X.K C ∧ Meth X.K C m f ∧ FnOk X.prog X.w X.K X.mg X.base (L2.CX X.prog X.w) k f fd ps sp ∧ Binds X.K fd ps [] ∧ sp [x] H1 Q (WE W σ)) := by
  refine ⟨fun pins s σ H Q In h => ?_⟩
  refine PySem.W.methodCall_KW (pl := pl) (thn (he.run pins s σ H _ In h) fun u s1 ⟨x, H1, In1, rx, b, C, dx, fs, f, fd, ps, sp, ex, eb, l, c, hm, Ok, bd, q⟩ => ?_) ht
  subst ex
  obtain rfl : u = Value.ref b := rx
  refine getmeth_ok In1 eb c hm l ?_
  refine PySem.W.callWith_K0 (first := [.ref b]) In1.kIn hm.kp ?_
  exact run_fnSD (E := WE W) (us := [.ref b]) (vs := [.ref b]) Ok room bd .nil (passAt tk σ) In1 (.cons rfl .nil) (by rw [List.append_nil]; exact q)
theorem norm_cases {tm0 : Env1} {s : S} {v : V} {K : S → List S → Prop} (r : Rl F Φ H σ τ ((some v, s) :: tm)) (h : Wp F W tm0 (norm s τ) K) : ∃ s' τ' Φ', Rl F Φ' H σ τ' ((some v, s') :: tm) ∧ K s' τ' := by
  cases s with
  | own o =>
    obtain ⟨d, τ1, e, k⟩ := take_cases (Wp.bnd (show Wp F W tm0 (M.bnd (take (.own o)) (fun d => M.ret (S.val d)) τ) K from h))
    obtain ⟨Φ1, r1⟩ := Rl.taken r e
    exact ⟨_, _, Φ1, r1, k⟩
  | _ => exact ⟨_, _, Φ, r, h⟩
theorem on_meth {v : V} {s : S} {vs : List V} {ss : List S} {Q : VK} (pr : Proper mf) (hn : ∀ ss, mf ss ≠ .stuck → ss.length = n) (l : vs.length = ss.length) (r : Rl F Φ H σ τ ((vs.map some).zip ss ++ ((some v, s) :: tm))) (h : Wp F W tm (onMeth mf s ss τ) fun s τ' => ∀ v H' Φ', Rl F Φ' H' σ τ' ((some v, s) :: tm) → Q v H') : spM F.G n mf (v :: vs) H Q (WE W σ) := by
  cases s with
  | val d =>
    obtain ⟨ds, τ2, e, p2⟩ := takeAll_cases (Wp.bnd h)
    obtain ⟨Φ2, r2, q⟩ := Rl.takenAll l r e
    obtain ⟨x, ex, fx⟩ := r2.hd
    cases ex
    exact sp_plain (ds := d :: ds) pr hn r2.tl (.cons fx q) p2
  | ali k =>
    obtain ⟨ds, τ2, e, p2⟩ := takeAll_cases (Wp.bnd h)
    obtain ⟨Φ2, r2, q⟩ := Rl.takenAll l r e
    obtain ⟨x, s', e1, e2, e3, _⟩ := r2.hd
    cases e1
    have st : ∀ o mk, Wp F W tm (lendTo mf k o mk ds τ2) (fun s τ' => ∀ v H' Φ', Rl F Φ' H' σ τ' ((some v, s) :: tm) → Q v H') → ds.length + 1 = n := fun o mk z => by
      have := hn (.lent 0 o :: ds.map S.val) fun y => by
        unfold lendTo at z
        rw [y] at z
        exact z
      simpa using this
    obtain ⟨y, e4, em, o1⟩ := r2.at e3
    rw [e2] at e4
    cases e4
    cases s' with
    | own o =>
      simp only [e3] at p2
      obtain ⟨b, e5, _⟩ := o1
      cases e5
      exact lend_ok pr (st _ _ p2) r2.tl q e3 e2 (fun o' => .own o o') p2
    | lent j o =>
      simp only [e3] at p2
      obtain ⟨b, e5, _⟩ := o1
      cases e5
      exact lend_ok pr (st _ _ p2) r2.tl q e3 e2 (fun o' => .lent j o o') p2
    | raw => simp only [e3] at p2; exact p2.elim
    | non => simp only [e3] at p2; exact p2.elim
    | val d => simp only [e3] at p2; exact p2.elim
    | ali i => simp only [e3] at p2; exact p2.elim
  | _ => exact h.elim
theorem t_meth {m : Str} {tab : Str → Option Fn} {Q : VK} (mo' : MetOk X.prog X.w X.K X.mg X.base F.G k m n tab) (h : TEm F W (eMeth m tab mo ms) σ H Q) : TEm F W mo σ H fun x H1 => ∃ b C dx fs f fd ps sp, x = .ref b ∧ H1 b = some (.ins C dx fs) ∧ fs.lookup m = none ∧ Cls X.K C ∧ Meth X.K C m f ∧ FnOk X.prog X.w X.K X.mg X.base (L2.CX X.prog X.w) k f fd ps sp ∧ Binds X.K fd ps [] ∧ TLm F W ms σ H1 fun vs H2 => sp (x :: vs) H2 Q (WE W σ) := by
  obtain ⟨Φ, τ, tm, rl, h⟩ := h
  refine te_go rl h.bnd fun s0 τ1 v H1 Φ1 p1 r1 => ?_
  obtain ⟨s, τ2, Φ2, r2, p2⟩ := norm_cases r1 (Wp.bnd p1)
  cases e : insAt τ2 s with
  | none => simp only [e] at p2; exact p2.elim
  | some cf =>
    obtain ⟨c, fs⟩ := cf
    simp only [e] at p2
    obtain ⟨b, C, dx, vs, rfl, hb, g, ff⟩ := insAt_ok r2 r2.hd e
    cases e1 : tab c with
    | none => simp only [e1] at p2; exact p2.elim
    | some mf =>
      cases e2 : fs.lookup m with
      | some _ => simp only [e1, e2] at p2; exact p2.elim
      | none =>
        simp only [e1, e2] at p2
        obtain ⟨f, fd, ps, c1, c2, Ok, bd⟩ := mo'.ex c mf e1 C g
        exact ⟨b, C, dx, vs, f, fd, ps, _, rfl, hb, FzF.look0 ff e2, c1, c2, Ok, bd, tl_go r2 (Wp.bnd p2) fun ss τ3 vs' H3 Φ3 p3 l r3 => on_meth (mo'.pr c mf e1) (mo'.ar c mf e1) l r3 p3⟩
theorem te_mono {Q Q' : VK} (h : TEm F W mo σ H Q) (i : ∀ x H', Q x H' → Q' x H') : TEm F W mo σ H Q' := by
  obtain ⟨Φ, τ, tm, r, h⟩ := h
  exact ⟨Φ, τ, tm, r, h.mono fun s τ' k v H' Φ' r' => i _ _ (k v H' Φ' r')⟩
theorem em_meth {m : Str} {tab : Str → Option Fn} {pl : Sem Bool} {apos : Pos} (ft : Fits X F W) (hr : Room k X.A) (mk : MetOk X.prog X.w X.K X.mg X.base F.G k m n tab) (he : EM X F W o mo) (ha : LM X F W (a :: es) ms)
    (hst : starEach (a :: es) X.env = (false, eval a X.env) :: starEach es X.env := by rfl) (hpl : (backTo pos (starEach es X.env)).any (·.1) = false := by rfl)
    (ht : eval (.Call (.Attribute o m apos) (a :: es) [] pos) X.env = (do
      let ov ← eval o X.env
      standAt apos.atName
      let (f, first) ← holding [ov] (getMethod ov m pl)
      callWith pos f first (backTo pos (starEach (a :: es) X.env)) (backToKw pos (keywordEach [] X.env))) := by rfl) :
    EM X F W (.Call (.Attribute o m apos) (a :: es) [] pos) (eMeth m tab mo ms) := PE.imp (pe_methA he hr ft.tk ha hst hpl ht) fun σ H Q h => t_meth mk h
theorem em_meth0 {m : Str} {tab : Str → Option Fn} {pl : Sem Bool} {apos : Pos} (ft : Fits X F W) (hr : Room k X.A) (mk : MetOk X.prog X.w X.K X.mg X.base F.G k m n tab) (he : EM X F W o mo)
    (ht : eval (.Call (.Attribute o m apos) [] [] pos) X.env = (do
      let ov ← eval o X.env
      standAt apos.atName
      let (f, first) ← holding [ov] (getMethod ov m pl)
      callWith pos f first (backTo pos (starEach [] X.env)) (backToKw pos (keywordEach [] X.env))) := by rfl) :
    EM X F W (.Call (.Attribute o m apos) [] [] pos) (eMeth m tab mo lNil) := PE.imp (pe_methA0 he hr ft.tk ht) fun σ H Q h => by
  refine te_mono (t_meth mk h) fun x H1 ⟨b, C, dx, fs, f, fd, ps, sp, h1, h2, h3, h4, h5, h6, h7, h8⟩ => ⟨b, C, dx, fs, f, fd, ps, sp, h1, h2, h3, h4, h5, h6, h7, ?_⟩
  obtain ⟨Φ, τ, tm, r, q⟩ := h8
  exact q [] H1 Φ rfl r
end
end Mi

/-! ### M20: classes, by facts -/
namespace Mi
open PySem PySem.Spec PyProof.Rows L2
section
variable {fa : List He.Fa} {fn : List He.DefD} {tq : List Tq} {exs : PySem.W.Frag → List Bool} {P : Program} {w : World} {K : PySem.W.Frag} {mg : Str → Option Value} {base : Heap} {k n : Nat} {mf : Fn} {c f m : Str} {ps : List Str} {fd : FuncData}
/-- classes whose instances take the field f -/
def setB (f : Str) (cs : List Str) (K : PySem.W.Frag) : Bool := cs.all fun c => (He.Fa.glo c).ok K && ((He.Fa.cls c).ok K && (He.Fa.noat c f).ok K)
theorem setOk {cs : List Str} (hd : HdOk fa fn tq exs K mg base) (h : setB f cs K = true) : SetOk K (gxOf tq K mg) f cs := ⟨fun c hc C g => by
  obtain ⟨q1, q2⟩ := He.ba (List.all_eq_true.mp h c hc)
  obtain ⟨q2, q3⟩ := He.ba q2
  rw [hd.gat q1 g]
  exact ⟨He.cls_ok q2, He.noat_ok q3⟩⟩
/-- a class that is made by its own __init__ -/
def makB (c : Str) (K : PySem.W.Frag) : Bool := (He.Fa.glo c).ok K && (He.Fa.mkr c).ok K
theorem makOk (hd : HdOk fa fn tq exs K mg base) (h : makB c K = true) (ok : FnOk P w K mg base (L2.CX P w) k (He.fAd K (c, some "__init__")) fd ps (spM (gxOf tq K mg) n mf)) (b : Binds K fd ps []) (ar : ∀ ss, mf ss ≠ .stuck → ss.length = n) : MakOk P w K mg base (gxOf tq K mg) k c n mf := by
  obtain ⟨h1, h2⟩ := He.ba h
  have hm := hd.gl c h1
  exact ⟨⟨He.ga K c, He.ma K (He.ga K c) "__init__", fd, ps, glOf_iff.mpr hm, hm, He.mkr_ok h2, ok, b⟩, ar⟩
/-- a method of a class -/
def metB (c m : Str) (K : PySem.W.Frag) : Bool := (He.Fa.glo c).ok K && ((He.Fa.cls c).ok K && (He.Fa.meth c m).ok K)
/-- one class's method, as the rule for calls asks it -/
def Met1 (P : Program) (w : World) (K : PySem.W.Frag) (mg : Str → Option Value) (base : Heap) (G : Gx) (k : Nat) (m : Str) (n : Nat) (c : Str) (mf : Fn) : Prop :=
  (∀ C, G.cls c = some C → ∃ f fd ps, Cls K C ∧ Meth K C m f ∧ FnOk P w K mg base (L2.CX P w) k f fd ps (spM G n mf) ∧ Binds K fd ps []) ∧ Proper mf ∧ ∀ ss, mf ss ≠ .stuck → ss.length = n
theorem met1 (hd : HdOk fa fn tq exs K mg base) (h : metB c m K = true) (ok : FnOk P w K mg base (L2.CX P w) k (He.fAd K (c, some m)) fd ps (spM (gxOf tq K mg) n mf)) (b : Binds K fd ps []) (pr : Proper mf) (ar : ∀ ss, mf ss ≠ .stuck → ss.length = n) : Met1 P w K mg base (gxOf tq K mg) k m n c mf := by
  obtain ⟨h1, h2⟩ := He.ba h
  obtain ⟨h2, h3⟩ := He.ba h2
  refine ⟨fun C g => ?_, pr, ar⟩
  rw [hd.gat h1 g]
  exact ⟨_, fd, ps, He.cls_ok h2, He.meth_ok h3, ok, b⟩
theorem Met1.up {j : Nat} {G : Gx} (h : Met1 P w K mg base G j m n c mf) (le : j ≤ k) : Met1 P w K mg base G k m n c mf := ⟨fun C g => by
  obtain ⟨f, fd, ps, a, b, o, d⟩ := h.1 C g
  exact ⟨f, fd, ps, a, b, o.mono le, d⟩, h.2⟩
theorem metOk {G : Gx} {l : List (Str × Fn)} (h : ∀ e ∈ l, Met1 P w K mg base G k m n e.1 e.2) : MetOk P w K mg base G k m n fun x => l.lookup x :=
  ⟨fun c mf e C g => (h _ (PySem.mem_of_lookup e)).1 C g, fun c mf e => (h _ (PySem.mem_of_lookup e)).2.1, fun c mf e => (h _ (PySem.mem_of_lookup e)).2.2⟩
end
end Mi

/-! ### M21: methods of texts with one argument -/
namespace Mi
open PySem PySem.Spec PyProof.Rows L2
section
variable {X : Cx} {F : Fm} {W : WX} {Φ Φ' H H' : Hp} {σ : L2.St} {τ τ' : List S} {tm : Env1} {o e : Expr} {mo ma : M S} {apos pos : Pos}
def isStrD : D → Option Unit
  | .str _ => some ()
  | _ => none
def BmS (F : Fm) (f : D → D → Option S) (r : V → List V → Hp → VK → Prop) : Prop := ∀ {Φ H : Hp} {σ : L2.St} {τ : List S} {tm : Env1} {v w : V} {d e : D} {s : S} {Q : VK}, Rl F Φ H σ τ tm → Rdv F Φ H v d → Rdv F Φ H w e → f d e = some s →
  (∀ x H' Φ', Rl F Φ' H' σ τ ((some x, s) :: tm) → Q x H') → r v [w] H Q
def eSM (f : D → D → Option S) (mo ma : M S) : M S := M.bnd mo fun s => M.bnd (peek s) fun d => M.bnd (M.of (isStrD d)) fun _ => M.bnd ma fun t => M.bnd (peek t) fun e => M.of (f d e)
theorem isStr_ok {d : D} {u : Unit} (h : isStrD d = some u) : ∃ a, d = .str a := by
  cases d <;> first | exact ⟨_, rfl⟩ | cases h
theorem str_rdv {Φ2 H2 : Hp} {v : V} {a : Str} (h : Rdv F Φ H v (.str a)) : Rdv F Φ2 H2 v (.str a) := by
  rw [h.str]
  exact .inl (.str a)
theorem t_sm {f : D → D → Option S} {r : V → List V → Hp → VK → Prop} (hf : BmS F f r) {Q : VK} (h : TEm F W (eSM f mo ma) σ H Q) : tM1 r (TEm F W mo) (TEm F W ma) σ H Q := by
  obtain ⟨Φ, τ, tm, rl, h⟩ := h
  refine te_go rl h.bnd fun s τ1 v H1 Φ1 p1 r1 => ?_
  obtain ⟨d, e1, p2⟩ := Wp.peek p1.bnd
  obtain ⟨u, e2, p3⟩ := Wp.of p2.bnd
  obtain ⟨a, rfl⟩ := isStr_ok e2
  have rd := r1.peek r1.hd e1
  refine ⟨⟨a, rd.str⟩, te_go r1 p3.bnd fun t τ2 w H2 Φ2 p4 r2 => ?_⟩
  obtain ⟨d2, e3, p5⟩ := Wp.peek p4.bnd
  obtain ⟨s2, e4, k⟩ := Wp.of p5
  exact hf r2.tl.tl (str_rdv rd) (r2.peek r2.hd e3) e4 fun x H' Φ' r' => k x H' Φ' r'
theorem em_sm {id : String} {name : Str} {f : D → D → Option S} {r : V → List V → Hp → VK → Prop} (slot : Slot "str" name id) (ty : typeOf (.builtin id) = pure (.type "method_descriptor")) (rule : MtR X id r) (hf : BmS F f r) (ho : EM X F W o mo) (ha : EM X F W e ma)
    (hs : starEach [e] X.env = [(false, eval e X.env)] := by rfl) (hbase : attributeBase o name X.env (eval o X.env) = eval o X.env := by rfl) (hline : (apos.endLine == pos.line) = true := by rfl) :
    EM X F W (.Call (.Attribute o name apos) [e] [] pos) (eSM f mo ma) := PE.imp (pe_m1 slot ty rule ho ha hs hbase hline) fun _ _ _ h => t_sm hf h
def fStarts : D → D → Option S
  | .str a, .str b => some (.val (.bl (Txt.startswith a b)))
  | _, _ => none
def fSplit : D → D → Option S
  | .str a, .str b => if (b.length == 0) = false ∧ a.length + 2 ≤ sizeLine then some (.own (.lst ((Txt.split a b).map .str))) else none
  | _, _ => none
theorem fz_strs {G : Gx} : ∀ ys : List Str, FzL G Φ (ys.map V.str) (ys.map D.str)
  | [] => .nil
  | y :: ys => .cons (.str y) (fz_strs ys)
theorem x_starts (ho : EM X F W o mo) (ha : EM X F W e ma) (hs : starEach [e] X.env = [(false, eval e X.env)] := by rfl) (hbase : attributeBase o "startswith" X.env (eval o X.env) = eval o X.env := by rfl) (hline : (apos.endLine == pos.line) = true := by rfl) :
    EM X F W (.Call (.Attribute o "startswith" apos) [e] [] pos) (eSM fStarts mo ma) := em_sm PySem.F.slot_str_startswith PySem.F.type_str_startswith mt_startswith (fun {Φ H σ τ tm v w d e s Q} rl h1 h2 hf k => by
  unfold fStarts at hf
  split at hf
  · cases hf
    exact ⟨_, _, h1.str, by rw [h2.str], k _ _ _ (rl.val (.bl _))⟩
  · cases hf) ho ha hs hbase hline
theorem x_split (ho : EM X F W o mo) (ha : EM X F W e ma) (hs : starEach [e] X.env = [(false, eval e X.env)] := by rfl) (hbase : attributeBase o "split" X.env (eval o X.env) = eval o X.env := by rfl) (hline : (apos.endLine == pos.line) = true := by rfl) :
    EM X F W (.Call (.Attribute o "split" apos) [e] [] pos) (eSM fSplit mo ma) := em_sm PySem.F.slot_str_split PySem.F.type_str_split mt_split (fun {Φ H σ τ tm v w d e s Q} rl h1 h2 hf k => by
  unfold fSplit at hf
  split at hf
  · split at hf
    · rename_i hz
      cases hf
      exact ⟨_, _, h1.str, by rw [h2.str], hz.1, hz.2, fun p hp => k _ _ _ (rl.mine hp (fz_strs _))⟩
    · cases hf
  · cases hf) ho ha hs hbase hline
end
end Mi

/-! ### M22: x in a text, x in a list of data; texts walked; int of a text, text of an int -/
namespace Mi
open PySem PySem.Spec PyProof.Rows L2
section
variable {X : Cx} {F : Fm} {W : WX} {Φ Φ' H H' : Hp} {σ : L2.St} {τ τ' : List S} {tm : Env1} {a b : Expr} {ma mb : M S} {pos p : Pos} {ms : M (List S)} {tg iter : Expr}
theorem unitsOk5 {k : Nat} {A : Around} (hr : Room k A) : A.units + 65 < cLine := by
  have := hr.un
  omega
def inD (d e : D) : Option Bool := match e with
  | .str j => (match d with
    | .str i => some (!(Builtin.Str.occurrences j i 0 j.length 1).isEmpty)
    | _ => none)
  | .lst ys => (match d.py, D.pys ys with
    | some p, some qs => if SeqAt.shaped p = true ∧ SeqAt.shaped (.list qs) = true then some (qs.any fun z => PyData.eqv z p) else none
    | _, _ => none)
  | _ => none
def fIn (d e : D) : Option S := (inD d e).map fun b => .val (.bl b)
def fNin (d e : D) : Option S := (inD d e).map fun b => .val (.bl !b)
theorem inD_ok {v w : V} {d e : D} {k : Bool} (l : Le Φ H) (hd : Rdv F Φ H v d) (he : Rdv F Φ H w e) (h : inD d e = some k) : (∃ i j, v = .str i ∧ w = .str j ∧ k = !(Builtin.Str.occurrences j i 0 j.length 1).isEmpty) ∨ ∃ p qs, Dp F.G.K H v p ∧ Dp F.G.K H w (.list qs) ∧ SeqAt.shaped p = true ∧ SeqAt.shaped (.list qs) = true ∧ k = qs.any fun z => PyData.eqv z p := by
  unfold inD at h
  split at h
  · split at h
    · cases h
      exact .inl ⟨_, _, hd.str, he.str, rfl⟩
    · cases h
  · rename_i ys
    split at h
    · rename_i p qs e1 e2
      split at h
      · rename_i hz
        cases h
        refine .inr ⟨p, qs, rd_dp hd l e1, rd_dp he l ?_, hz.1, hz.2, rfl⟩
        simp only [D.py, e2, Option.map_some]
      · cases h
    · cases h
  · cases h
theorem x_in (ft : Fits X F W) (hu : X.A.units + 65 < cLine) (ha : EM X F W a ma) (hb : EM X F W b mb) (hm : behindInMarks .In b = false := by with_unfolding_all rfl) : EM X F W (.Compare a [.In] [b] pos) (eOp fIn ma mb) := em_cmp (op_in_str.or (op_inD hu)) (fun {Φ H σ τ tm v w d e s Q} rl hd he hf k => by
  obtain ⟨c, e1, rfl⟩ := Option.map_eq_some_iff.mp hf
  rcases inD_ok rl.le hd he e1 with ⟨i, j, h1, h2, rfl⟩ | ⟨p, qs, h1, h2, h3, h4, rfl⟩
  · exact .inl ⟨i, j, h1, h2, k _ _ _ (rl.val (.bl _))⟩
  · exact .inr ⟨p, qs, by rw [ft.K]; exact h1, by rw [ft.K]; exact h2, h3, h4, k _ _ _ (rl.val (.bl _))⟩) ha hb hm
theorem t_in (ft : Fits X F W) (hu : X.A.units + 65 < cLine) (ha : EM X F W a ma) (hb : EM X F W b mb) (hm : behindInMarks .In b = false := by with_unfolding_all rfl) : BM X F W (.Compare a [.In] [b] pos) (bVal (eOp fIn ma mb)) := bm_cmp (op_in_str.or (op_inD hu)) (fun {Φ H σ τ tm v w d e s Q} rl hd he hf k => by
  obtain ⟨c, e1, rfl⟩ := Option.map_eq_some_iff.mp hf
  rcases inD_ok rl.le hd he e1 with ⟨i, j, h1, h2, rfl⟩ | ⟨p, qs, h1, h2, h3, h4, rfl⟩
  · exact .inl ⟨i, j, h1, h2, k _ _ _ (rl.val (.bl _))⟩
  · exact .inr ⟨p, qs, by rw [ft.K]; exact h1, by rw [ft.K]; exact h2, h3, h4, k _ _ _ (rl.val (.bl _))⟩) ha hb hm
theorem x_nin (ft : Fits X F W) (hu : X.A.units + 65 < cLine) (ha : EM X F W a ma) (hb : EM X F W b mb) (hm : behindInMarks .NotIn b = false := by with_unfolding_all rfl) : EM X F W (.Compare a [.NotIn] [b] pos) (eOp fNin ma mb) := em_cmp (op_notin_str.or (op_notInD hu)) (fun {Φ H σ τ tm v w d e s Q} rl hd he hf k => by
  obtain ⟨c, e1, rfl⟩ := Option.map_eq_some_iff.mp hf
  rcases inD_ok rl.le hd he e1 with ⟨i, j, h1, h2, rfl⟩ | ⟨p, qs, h1, h2, h3, h4, rfl⟩
  · exact .inl ⟨i, j, h1, h2, k _ _ _ (rl.val (.bl _))⟩
  · exact .inr ⟨p, qs, by rw [ft.K]; exact h1, by rw [ft.K]; exact h2, h3, h4, k _ _ _ (rl.val (.bl _))⟩) ha hb hm
/-! #### a text walked -/
def signsD (x : Str) : List D := x.cps.toList.map fun c => .str ⟨#[c]⟩
def strD : D → Option (List D)
  | .str x => some (signsD x)
  | _ => none
def iTxt (ma : M S) : M (List D × Pin) := M.bnd ma fun s => M.bnd (peek s) fun d => M.bnd (M.of (strD d)) fun its => M.ret (its, noPin)
theorem yields_str {x : Str} : Yields F (Its x) (signsD x) [] noPin := by
  intro i Φ H σ τ tm r _
  refine ⟨fun d hd => ?_, fun hl => ?_⟩
  · unfold signsD at hd
    rw [List.getElem?_map] at hd
    obtain ⟨c, hc, rfl⟩ := Option.map_eq_some_iff.mp hd
    have hc' : x.cps[i]? = some c := by rw [← Array.getElem?_toList]; exact hc
    refine ⟨?_, fun z H2 ⟨e1, c', e2, e3⟩ => ?_⟩
    · obtain ⟨hi, _⟩ := Array.getElem?_eq_some_iff.mp hc'
      exact hi
    · rw [hc'] at e2
      cases e2
      subst e1 e3
      exact ⟨Φ, r.val (.str _)⟩
  · unfold signsD at hl
    rw [List.length_map, Array.length_toList] at hl
    exact hl
theorem im_txt (ha : EM X F W iter ma) : IM X F W tg iter (iTxt ma) := PI.imp (pi_str ha) fun σ H Rr ⟨Φ, τ, tm, r, h⟩ => te_go r (Wp.bnd h) fun s τ1 v H1 Φ1 p1 r1 => by
  obtain ⟨d, e1, p2⟩ := Wp.peek (Wp.bnd p1)
  obtain ⟨its, e2, k⟩ := Wp.of (Wp.bnd p2)
  cases d with
  | str x =>
    cases e2
    exact ⟨x, (r1.peek r1.hd e1).str, k _ H1 Φ1 [] quiet_nil r1.tl trivial yields_str⟩
  | _ => cases e2
/-! #### int(text), str(int) -/
def fIntX : List D → Option S
  | [.int i] => sInt i
  | [.bl k] => sInt (if k then 1 else 0)
  | [.str a] => if a.length ≤ 640 then (PySem.intText? a).map fun n => .val (.int n) else none
  | _ => none
def fStr : List D → Option S
  | [.int i] => if i.natAbs.log2 < 1920 then some (.val (.str (toString i))) else none
  | _ => none
theorem x_str (hm : X.mg "str" = none) (ha : LM X F W [a] ms) (hg : Gl X "str" := by rfl) (he : starEach [a] X.env = (false, eval a X.env) :: starEach [] X.env := by rfl) : EM X F W (.Call (.Name "str" p) [a] [] pos) (eCB fStr ms) := em_callTy call_str_int (fun {Φ H σ τ tm vs ds s Q} rl hd hf k => by
  unfold fStr at hf
  split at hf
  · split at hf
    · rename_i hz
      cases hf
      obtain ⟨v, rfl, h1⟩ := rd1 hd
      exact ⟨_, by rw [h1.int], hz, k _ _ _ (rl.val (.str _))⟩
    · cases hf
  · cases hf) hm ha (by decide +kernel) hg (by decide) (by decide) he rfl
/-! #### a text or a sequence -/
def isTxt (ma : M S) (τ : List S) : Bool := match ma τ with
  | .ok (s, τ1) => (match peekS τ1 s with
    | some (.str _) => true
    | _ => false)
  | _ => false
def iAny (ma : M S) : M (List D × Pin) := fun τ => if isTxt ma τ = true then iTxt ma τ else iSeq ma τ
theorem im_any (ft : Fits X F W) (ha : EM X F W iter ma) : IM X F W tg iter (iAny ma) := by
  have both : PI X tg iter (fun σ H Rr => TIm F W (iTxt ma) σ H Rr ∨ TIm F W (iSeq ma) σ H Rr) := ⟨fun pins s σ H Rr I h => h.elim ((im_txt ha).run pins s σ H Rr I) ((im_seq ft ha).run pins s σ H Rr I)⟩
  refine PI.imp both fun σ H Rr ⟨Φ, τ, tm, r, h⟩ => ?_
  unfold iAny at h
  split at h
  · exact .inl ⟨Φ, τ, tm, r, h⟩
  · exact .inr ⟨Φ, τ, tm, r, h⟩
end
end Mi

/-! ### M23: max, min of a list of ints -/
namespace Mi
open PySem PySem.Spec PyProof.Rows L2
section
variable {X : Cx} {F : Fm} {W : WX} {a : Expr} {ms : M (List S)} {pos p : Pos}
def fMax : List D → Option S
  | [.lst xs] => (match intsD xs with
    | some (n :: ns) => some (.val (.int (ns.foldl max n)))
    | _ => none)
  | _ => none
def fMin : List D → Option S
  | [.lst xs] => (match intsD xs with
    | some (n :: ns) => some (.val (.int (ns.foldl min n)))
    | _ => none)
  | _ => none
theorem foldl_max : ∀ (ns : List Int) (n : Int), ns.foldl max n ∈ n :: ns ∧ ∀ y ∈ n :: ns, y ≤ ns.foldl max n
  | [], n => ⟨List.mem_cons_self, fun y hy => by
    simp only [List.mem_cons, List.not_mem_nil, or_false] at hy
    rw [hy]; exact Int.le_refl _⟩
  | m :: ns, n => by
    obtain ⟨h1, h2⟩ := foldl_max ns (max n m)
    rw [List.foldl_cons]
    constructor
    · rcases List.mem_cons.mp h1 with e | e
      · rw [e]
        by_cases q : n ≤ m
        · rw [Int.max_eq_right q]; exact List.mem_cons_of_mem _ List.mem_cons_self
        · rw [Int.max_eq_left (by omega)]; exact List.mem_cons_self
      · exact List.mem_cons_of_mem _ (List.mem_cons_of_mem _ e)
    · intro y hy
      have h3 := h2 (max n m) List.mem_cons_self
      rcases List.mem_cons.mp hy with e | hy
      · subst e; omega
      · rcases List.mem_cons.mp hy with e | hy
        · subst e; omega
        · exact h2 y (List.mem_cons_of_mem _ hy)
theorem foldl_min : ∀ (ns : List Int) (n : Int), ns.foldl min n ∈ n :: ns ∧ ∀ y ∈ n :: ns, ns.foldl min n ≤ y
  | [], n => ⟨List.mem_cons_self, fun y hy => by
    simp only [List.mem_cons, List.not_mem_nil, or_false] at hy
    rw [hy]; exact Int.le_refl _⟩
  | m :: ns, n => by
    obtain ⟨h1, h2⟩ := foldl_min ns (min n m)
    rw [List.foldl_cons]
    constructor
    · rcases List.mem_cons.mp h1 with e | e
      · rw [e]
        by_cases q : n ≤ m
        · rw [Int.min_eq_left q]; exact List.mem_cons_self
        · rw [Int.min_eq_right (by omega)]; exact List.mem_cons_of_mem _ List.mem_cons_self
      · exact List.mem_cons_of_mem _ (List.mem_cons_of_mem _ e)
    · intro y hy
      have h3 := h2 (min n m) List.mem_cons_self
      rcases List.mem_cons.mp hy with e | hy
      · subst e; omega
      · rcases List.mem_cons.mp hy with e | hy
        · subst e; omega
        · exact h2 y (List.mem_cons_of_mem _ hy)
theorem c_max : CaS F fMax (rMax F.G.K) := by
  intro Φ H σ τ tm vs ds s Q rl hd hf k
  unfold fMax at hf
  split at hf
  · split at hf
    · rename_i n ns e4
      cases hf
      obtain ⟨v, rfl, h⟩ := rd1 hd
      obtain ⟨b, ws, e2, e3, q⟩ := h.lst rl.le
      subst e2
      rw [ints_fz q e4] at e3
      obtain ⟨h1, h2⟩ := foldl_max ns n
      refine ⟨b, n :: ns, rfl, .inl (.inl e3), by simp, fun m hm hy => ?_⟩
      have : m = ns.foldl max n := Int.le_antisymm (h2 m hm) (hy _ h1)
      rw [this]
      exact k _ _ _ (rl.val (.int _))
    · cases hf
  · cases hf
theorem c_min : CaS F fMin (rMin F.G.K) := by
  intro Φ H σ τ tm vs ds s Q rl hd hf k
  unfold fMin at hf
  split at hf
  · split at hf
    · rename_i n ns e4
      cases hf
      obtain ⟨v, rfl, h⟩ := rd1 hd
      obtain ⟨b, ws, e2, e3, q⟩ := h.lst rl.le
      subst e2
      rw [ints_fz q e4] at e3
      obtain ⟨h1, h2⟩ := foldl_min ns n
      refine ⟨b, n :: ns, rfl, .inl (.inl e3), by simp, fun m hm hy => ?_⟩
      have : m = ns.foldl min n := Int.le_antisymm (hy _ h1) (h2 m hm)
      rw [this]
      exact k _ _ _ (rl.val (.int _))
    · cases hf
  · cases hf
theorem x_max (ft : Fits X F W) (hm : X.mg "max" = none) (ha : LM X F W [a] ms) (hg : Gl X "max" := by rfl) (he : starEach [a] X.env = (false, eval a X.env) :: starEach [] X.env := by rfl) : EM X F W (.Call (.Name "max" p) [a] [] pos) (eCB fMax ms) := em_callB (cr_max ft.calm) (by rw [ft.K]; exact c_max) hm ha (by decide +kernel) hg (by decide) (by decide) he rfl
theorem x_min (ft : Fits X F W) (hm : X.mg "min" = none) (ha : LM X F W [a] ms) (hg : Gl X "min" := by rfl) (he : starEach [a] X.env = (false, eval a X.env) :: starEach [] X.env := by rfl) : EM X F W (.Call (.Name "min" p) [a] [] pos) (eCB fMin ms) := em_callB (cr_min ft.calm) (by rw [ft.K]; exact c_min) hm ha (by decide +kernel) hg (by decide) (by decide) he rfl
end
end Mi

/-! ### M24: C(k = v, ..) -/
namespace Mi
open PySem PySem.Spec PyProof.Rows L2
section
variable {X : Cx} {F : Fm} {W : WX} {Φ Φ' H H' : Hp} {σ : L2.St} {τ τ' : List S} {tm : Env1} {pos p : Pos} {ms : M (List S)} {k n : Nat} {mf : Fn} {c : Str}
theorem sp_make {C x dx : Addr} {vs : List V} {ds : List D} {Q : VK} (g : F.G.cls c = some C) (hn : ∀ ss, mf ss ≠ .stuck → ss.length = n) (hx : H x = none) (hdx : H dx = none) (ne : dx ≠ x) (r : Rl F Φ H σ τ tm) (q : FzL F.G Φ vs ds) (p2 : Wp F W tm (match mf (.lent 0 (.ins c []) :: ds.map S.val) with
  | .ok (.val .non, .lent _ o :: _) => .ok (.own o, τ)
  | .exc cc fs _ => .exc cc fs τ
  | _ => .stuck) fun s τ' => ∀ v H' Φ', Rl F Φ' H' σ τ' ((some v, s) :: tm) → Q v H') : spM F.G n mf (.ref x :: vs) (upd (upd H dx (.own x)) x (.ins C dx [])) (fun v H2 => v = .non ∧ Q (.ref x) H2) (WE W σ) := by
  have nx : upd H dx (.own x) x = none := by rw [upd_ne (Ne.symm ne)]; exact hx
  have r3 : Rl F Φ (upd (upd H dx (.own x)) x (.ins C dx [])) σ τ tm := (r.beside hdx).beside nx
  have ow : Ow F.G Φ (upd (upd H dx (.own x)) x (.ins C dx [])) x (.ins c []) := ⟨C, dx, [], upd_same, g, .nil⟩
  have fx : Φ x = none := r.fre hx
  have ent := r3.enter1 q ow fx
  have ne' : mf (.lent 0 (.ins c []) :: ds.map S.val) ≠ .stuck := fun z => by
    rw [z] at p2
    exact p2
  have there : ∀ {b : Addr} {u : HO}, H b = some u → upd (upd H dx (.own x)) x (.ins C dx []) b = some u := fun {b u} hb => by
    rw [upd_ne (ne_of_none hb hx), upd_ne (ne_of_none hb hdx)]
    exact hb
  have back : ∀ {Φ' H' : Hp} {out : List S} {tmc : Env1}, Rl ⟨F.G, Φ, upd (upd H dx (.own x)) x (.ins C dx []), fun n => if n = 0 then some x else none, none⟩ Φ' H' ((V.ref x :: vs).map some) out tmc → Rl F Φ' H' σ τ tm := fun {Φ' H' out tmc} cc =>
    r.grow cc.le0 cc.le (fun b o hb h2 => cc.pres b o (there hb) (fun j z => by
      by_cases hj : j = 0
      · have z' : some x = some b := by rw [← z]; exact (if_pos hj).symm
        cases z'
        rw [hx] at hb; cases hb
      · have z' : none = some b := by rw [← z]; exact (if_neg hj).symm
        cases z') h2) (fun b o hb => (cc.new b o hb).imp id fun z => none_upd b (none_upd b z)) cc.tabs fun b hb => none_upd b (none_upd b (cc.dom b hb))
  refine ⟨Φ, _, .lent 0 (.ins c []) :: ds.map S.val, hn _ ne', ent, fun s hs => ?_, ?_⟩
  · rcases List.mem_cons.mp hs with e | hs
    · rw [e]; trivial
    · obtain ⟨d, _, e⟩ := List.mem_map.mp hs
      rw [← e]; trivial
  · cases hm : mf (.lent 0 (.ins c []) :: ds.map S.val) with
    | stuck => exact ne' hm
    | exc cc fs out =>
      rw [hm] at p2
      intro cls d H' Φ' c1 xr
      exact p2 cls d σ H' Φ' (back c1) xr
    | ok pr =>
      obtain ⟨r', out⟩ := pr
      rw [hm] at p2
      intro v H' Φ' c1
      cases r' with
      | val d =>
        cases d with
        | non =>
          cases out with
          | nil => exact p2.elim
          | cons s0 out =>
            cases s0 with
            | lent j o' =>
              obtain ⟨y, ev, fv⟩ := c1.hd
              cases ev
              cases fv
              refine ⟨rfl, ?_⟩
              have r4 := back c1
              have o1 : One ⟨F.G, Φ, upd (upd H dx (.own x)) x (.ins C dx []), fun n => if n = 0 then some x else none, none⟩ Φ' H' ((V.ref x :: vs).map some) (.lent j o' :: out) (some (.ref x), .lent j o') := c1.one _ (List.mem_append_left _ (by
                show _ ∈ ((some (V.ref x)) :: vs.map some).zip (.lent j o' :: out)
                exact List.mem_cons_self))
              obtain ⟨b, eb, w2, fb, _⟩ := o1
              cases eb
              refine p2 (.ref x) H' Φ' (r4.put (p := (some (.ref x), .own o')) ⟨x, rfl, w2, fb, r.dom x hx⟩ fun z hz b hb hq => ?_)
              cases hb
              exact r.there z hz x hq hx
            | _ => exact p2.elim
        | _ => exact p2.elim
      | _ => exact p2.elim
structure MakK (P : Program) (w : World) (K : PySem.W.Frag) (mg : Str → Option Value) (base : Heap) (G : Gx) (k : Nat) (c : Str) (n : Nat) (ks : List Str) (ix : List Nat) (mf : Fn) : Prop where
  ex : ∃ C f fd ps, G.cls c = some C ∧ mg c = some (.ref C) ∧ Mk K C f ∧ FnOk P w K mg base (L2.CX P w) k f fd ps (spM G n mf) ∧ ∀ (s : Shared) (v : Value) (ws : List Value), ws.length = ks.length → BindsTo s fd ⟨[v], ks.zip ws⟩ (ps.zip (v :: pick .none ix ws))
  ar : ∀ ss, mf ss ≠ .stuck → ss.length = n
def eMakeK (c : Str) (ix : List Nat) (nk : Nat) (mf : Fn) (ms : M (List S)) : M S := M.bnd ms fun ss => M.bnd (takeAll ss) fun ds => fun τ => if ds.length = nk then (match mf (.lent 0 (.ins c []) :: (pick .non ix ds).map S.val) with
  | .ok (.val .non, .lent _ o :: _) => .ok (.own o, τ)
  | .exc cc fs _ => .exc cc fs τ
  | _ => .stuck) else .stuck
theorem run_mkK {CX : CXT} {fi C : Addr} {fd : FuncData} {ps ks : List Str} {ix : List Nat} {sp : Sp} {E : XK} {pins : List (Addr × Obj)} {s : Shared} {Q : VK} {ws : List Value} {zs : List V} (Mc : Mk X.K C fi) (Ok : FnOk X.prog X.w X.K X.mg X.base CX k fi fd ps sp) (room : Room (k + 1) X.A)
    (bd : ∀ (s : Shared) (v : Value) (ws : List Value), ws.length = ks.length → BindsTo s fd ⟨[v], ks.zip ws⟩ (ps.zip (v :: pick .none ix ws))) (out : PassesAt CX X σ E) (In : Inv X pins σ H s) (rv : Vals zs ws) (hl : zs.length = ks.length) (go : ∀ x dx, H x = none → H dx = none → dx ≠ x → sp (.ref x :: pick .non ix zs) (upd (upd H dx (.own x)) x (.ins C dx [])) (fun v H2 => v = .non ∧ Q (.ref x) H2) E) :
    wpAny (model X.prog X.w) X.A (call (.ref C) [] (ks.zip ws)) (EP X pins σ Q) X.xe s := by
  have g1 := go (s.heap.objs.size + 1) s.heap.objs.size (In.hok.fresh (Nat.le_succ _)) (In.hok.fresh (Nat.le_refl _)) (Nat.ne_of_lt (Nat.lt_succ_self _))
  have In2 := Inv.made (C := C) In
  have rv2 : Vals (V.ref (s.heap.objs.size + 1) :: pick .non ix zs) (Value.ref (s.heap.objs.size + 1) :: pick .none ix ws) := .cons rfl (pick_vals rv)
  refine wpAny_call (make_map (f := fi) In.kIn Mc.makes Mc.init (beq_iff_eq.mp Mc.fn) (codeAny_mono (Ok.run _ X.stack _ _ ⟨[Value.ref (s.heap.objs.size + 1)], ks.zip ws⟩ (Value.ref (s.heap.objs.size + 1) :: pick .none ix ws) _ _ E (room.make C [] (ks.zip ws)) (In2.env0.make C [] (ks.zip ws)) (bd _ _ ws (by rw [← rv.length]; exact hl)) rv2 g1) fun r s' hq => ?_))
  cases r with
  | error e => exact out pins _ _ e s' In2 hq
  | ok fl =>
    cases fl with
    | ret u =>
      obtain ⟨v, H', In3, r3, ev, q3⟩ := In2.after hq
      subst ev
      exact ⟨r3, ⟨V.ref (s.heap.objs.size + 1), H', In3, rfl, q3⟩⟩
    | next => exact False.elim hq
    | brk => exact False.elim hq
    | cont => exact False.elim hq
theorem em_makeK {kws : List Keyword} {ks : List Str} {ix : List Nat} (ft : Fits X F W) (hr : Room (k + 1) X.A) (mo : MakK X.prog X.w X.K X.mg X.base F.G k c n ks ix mf) (ha : KM X F W kws ms) (hall : (backToKw pos (keywordEach kws X.env)).all (·.1.isSome) = true := by rfl) (hks : (backToKw pos (keywordEach kws X.env)).filterMap (·.1) = ks := by rfl)
    (hg : Gl X c := by rfl) (hdb : (c == ("__debug__" : Str)) = false := by decide) (hpl : ((backTo pos (starEach [] X.env)).any (·.1) || (backToKw pos (keywordEach kws X.env)).any (·.1.isNone)) = false := by rfl) :
    EM X F W (.Call (.Name c p) [] kws pos) (eMakeK c ix ks.length mf ms) := by
  obtain ⟨C, f, fd, ps, g, gm, Mc, Ok, b⟩ := mo.ex
  refine ⟨fun pins s σ H Q I ⟨Φ, τ, tm, rl, h⟩ => ?_⟩
  refine wpAny_Call_Name_kw (ld_glob I hg gm ?_ hdb)
  refine PySem.W.callWith_KW0 (h₀ := X.base) I.ok.mod.kin Mc.kp hall ?_ hpl
  have t : TLm F W ms σ H fun zs H1 => zs.length = ks.length ∧ ∀ x dx, H1 x = none → H1 dx = none → dx ≠ x → spM F.G n mf (.ref x :: pick .non ix zs) (upd (upd H1 dx (.own x)) x (.ins C dx [])) (fun v H2 => v = .non ∧ Q (.ref x) H2) (WE W σ) := by
    refine tl_go rl h.bnd fun ss τ1 vs H1 Φ1 p1 l r1 => ?_
    obtain ⟨ds, τ2, e, p2⟩ := takeAll_cases (Wp.bnd p1)
    obtain ⟨Φ2, r2, q⟩ := Rl.takenAll l r1 e
    split at p2
    · rename_i hz
      exact ⟨by rw [q.length]; exact hz, fun x dx hx hdx ne => sp_make g mo.ar hx hdx ne r2 (pick_fz q) p2⟩
    · exact p2.elim
  refine thn (ha.run pos pins s σ H _ I t) fun ws s2 ⟨zs, H2, I2, rz, hl0, q2⟩ => ⟨I2.kIn, ?_⟩
  rw [hks]
  exact run_mkK Mc Ok hr b (passAt ft.tk σ) I2 rz hl0 q2
end
end Mi

/-! ### M25: is, is not of None and of truths -/
namespace Mi
open PySem PySem.Spec PyProof.Rows L2
section
variable {X : Cx} {F : Fm} {W : WX} {a b : Expr} {ma mb : M S} {pos : Pos}
def isD (d e : D) : Option Bool := match e with
  | .non => some (Mi.isNon d)
  | .bl b => (match d with
    | .bl c => some (decide (c = b))
    | _ => none)
  | _ => none
def fIs (d e : D) : Option S := (isD d e).map fun b => .val (.bl b)
def fIsnt (d e : D) : Option S := (isD d e).map fun b => .val (.bl !b)
theorem isD_ok {Φ H : Hp} {v w : V} {d e : D} {k : Bool} (hd : Rdv F Φ H v d) (he : Rdv F Φ H w e) (h : isD d e = some k) : (w = .non ∧ k = decide (v = .non)) ∨ ∃ c b : Bool, v = .bl c ∧ w = .bl b ∧ k = decide (c = b) := by
  unfold isD at h
  split at h
  · cases h
    exact .inl ⟨he.non, (rd_isN hd).symm⟩
  · split at h
    · cases h
      exact .inr ⟨_, _, hd.bl, he.bl, rfl⟩
    · cases h
  · cases h
theorem o_is : OpS F fIs (fun x y H Q => (y = .non ∧ Q (.bl (decide (x = .non))) H) ∨ rIsB x y H Q) := by
  intro Φ H σ τ tm v w d e s Q rl hd he hf k
  obtain ⟨c, e1, rfl⟩ := Option.map_eq_some_iff.mp hf
  rcases isD_ok hd he e1 with ⟨h1, rfl⟩ | ⟨c, b, h1, h2, rfl⟩
  · exact .inl ⟨h1, k _ _ _ (rl.val (.bl _))⟩
  · exact .inr ⟨c, b, h1, h2, k _ _ _ (rl.val (.bl _))⟩
theorem o_isnt : OpS F fIsnt (fun x y H Q => (y = .non ∧ Q (.bl (!decide (x = .non))) H) ∨ rNotB x y H Q) := by
  intro Φ H σ τ tm v w d e s Q rl hd he hf k
  obtain ⟨c, e1, rfl⟩ := Option.map_eq_some_iff.mp hf
  rcases isD_ok hd he e1 with ⟨h1, rfl⟩ | ⟨c, b, h1, h2, rfl⟩
  · exact .inl ⟨h1, k _ _ _ (rl.val (.bl _))⟩
  · exact .inr ⟨c, b, h1, h2, k _ _ _ (rl.val (.bl _))⟩
theorem x_isb (ha : EM X F W a ma) (hb : EM X F W b mb) : EM X F W (.Compare a [.Is] [b] pos) (eOp fIs ma mb) := em_cmp (op_isN.or op_isBl) o_is ha hb (nomark b)
theorem x_isntb (ha : EM X F W a ma) (hb : EM X F W b mb) : EM X F W (.Compare a [.IsNot] [b] pos) (eOp fIsnt ma mb) := em_cmp (op_notN.or op_notBl) o_isnt ha hb (nomark b)
theorem t_isb (ha : EM X F W a ma) (hb : EM X F W b mb) : BM X F W (.Compare a [.Is] [b] pos) (bVal (eOp fIs ma mb)) := bm_cmp (op_isN.or op_isBl) o_is ha hb (nomark b)
theorem t_isntb (ha : EM X F W a ma) (hb : EM X F W b mb) : BM X F W (.Compare a [.IsNot] [b] pos) (bVal (eOp fIsnt ma mb)) := bm_cmp (op_notN.or op_notBl) o_isnt ha hb (nomark b)
/-! #### a list so many times -/
def fRep : D → D → Option S
  | .lst xs, .int k => if -(2 ^ 63) ≤ k ∧ k < 2 ^ 63 ∧ xs.length * k.toNat ≤ sizeLine then some (.own (.lst (List.replicate k.toNat xs).flatten)) else none
  | _, _ => none
theorem fz_rep {G : Gx} {Φ : Hp} {vs : List V} {ds : List D} (q : FzL G Φ vs ds) : ∀ n : Nat, FzL G Φ (List.replicate n vs).flatten (List.replicate n ds).flatten
  | 0 => .nil
  | n + 1 => by
    rw [List.replicate_succ, List.replicate_succ, List.flatten_cons, List.flatten_cons]
    exact FzL.append q (fz_rep q n)
theorem o_rep : OpS F fRep rRep := by
  intro Φ H σ τ tm v w d e s Q rl hd he hf k
  unfold fRep at hf
  split at hf
  · split at hf
    · rename_i hz
      cases hf
      obtain ⟨a, vs, rfl, e3, q⟩ := hd.lst rl.le
      exact ⟨a, _, vs, rfl, he.int, e3, hz.1, hz.2.1, by rw [q.length]; exact hz.2.2, fun p hp => k _ _ _ (rl.mine hp (fz_rep q _))⟩
    · cases hf
  · cases hf
theorem x_rep (ha : EM X F W a ma) (hb : EM X F W b mb) : EM X F W (.BinOp a .Mult b pos) (eOp fRep ma mb) := em_op op_rep o_rep ha hb
end
end Mi

/-! ### M26: facts of C(k = v, ..) -/
namespace Mi
open PySem PySem.Spec PyProof.Rows L2
section
variable {fa : List He.Fa} {fn : List He.DefD} {tq : List Tq} {exs : PySem.W.Frag → List Bool} {P : Program} {w : World} {K : PySem.W.Frag} {mg : Str → Option Value} {base : Heap} {k n : Nat} {mf : Fn} {c qual : Str} {ps ks : List Str} {ix : List Nat} {fd : FuncData} {params : Arguments} {bdy : List Stmt} {scope : Scope}
theorem makK (hd : HdOk fa fn tq exs K mg base) (h : makB c K = true) (Fu : FunD K "__init__" qual params bdy scope [] [] (He.fAd K (c, some "__init__")) fd) (ok : FnOk P w K mg base (L2.CX P w) k (He.fAd K (c, some "__init__")) fd ps (spM (gxOf tq K mg) n mf))
    (hb : ∀ (kV doc pm : Value) (an : Option Addr) (cdv ct v : Value) (ws : List Value), ws.length = ks.length → bindArgs (PySem.W.fnOf "__init__" qual params bdy scope .none kV doc pm an cdv ct) ⟨[v], ks.zip ws⟩ = pure (ps.zip (v :: pick .none ix ws))) (ar : ∀ ss, mf ss ≠ .stuck → ss.length = n) : MakK P w K mg base (gxOf tq K mg) k c n ks ix mf := by
  obtain ⟨h1, h2⟩ := He.ba h
  have hm := hd.gl c h1
  refine ⟨⟨He.ga K c, He.ma K (He.ga K c) "__init__", fd, ps, glOf_iff.mpr hm, hm, He.mkr_ok h2, ok, fun s v ws hw => ?_⟩, ar⟩
  obtain ⟨oc, od, dV, kV, doc, pm, an, cdv, ct, osl, rfl, lk, hcd, hD, hK⟩ := Fu.ex
  rcases hD with ⟨_, rfl⟩ | ⟨e, _⟩
  · exact .of_eq (hb kV doc pm an cdv ct v ws hw)
  · exact absurd rfl e
end
end Mi

/-! ### M27: texts joined -/
namespace Mi
open PySem PySem.Spec PyProof.Rows L2
section
variable {X : Cx} {F : Fm} {W : WX} {Φ : Hp} {o e : Expr} {mo ma : M S} {apos pos : Pos}
def strsD : List D → Option (List Str)
  | [] => some []
  | .str b :: ds => (strsD ds).map (b :: ·)
  | _ => none
theorem strs_fz {G : Gx} : ∀ {vs : List V} {ds : List D} {ys : List Str}, FzL G Φ vs ds → strsD ds = some ys → vs = ys.map V.str
  | _, [], ys, .nil, e => by cases e; rfl
  | _, d :: ds, ys, .cons h t, e => by
    cases d with
    | str b =>
      unfold strsD at e
      obtain ⟨zs, e1, rfl⟩ := Option.map_eq_some_iff.mp e
      cases h
      rw [strs_fz t e1]
      rfl
    | _ => cases e
def fJoin : D → D → Option S
  | .str a, .lst xs => (match strsD xs with
    | some ys => if (ys.map (·.length)).sum + ys.length * a.length ≤ 16777216 then some (.val (.str (Txt.join a ys))) else none
    | none => none)
  | _, _ => none
theorem x_join (ho : EM X F W o mo) (ha : EM X F W e ma) (hs : starEach [e] X.env = [(false, eval e X.env)] := by rfl) (hbase : attributeBase o "join" X.env (eval o X.env) = eval o X.env := by rfl) (hline : (apos.endLine == pos.line) = true := by rfl) :
    EM X F W (.Call (.Attribute o "join" apos) [e] [] pos) (eSM fJoin mo ma) := em_sm PySem.F.slot_str_join PySem.F.type_str_join mt_join (fun {Φ H σ τ tm v w d e s Q} rl h1 h2 hf k => by
  unfold fJoin at hf
  split at hf
  · split at hf
    · rename_i ys e4
      split at hf
      · rename_i hz
        cases hf
        obtain ⟨b, ws, e2, e3, q⟩ := h2.lst rl.le
        subst e2
        rw [strs_fz q e4] at e3
        exact ⟨_, b, ys, h1.str, rfl, .inl (.inl (.inl e3)), hz, k _ _ _ (rl.val (.str _))⟩
      · cases hf
    · cases hf
  · cases hf) ho ha hs hbase hline
end
end Mi

/-! ### M28: sorted of ints -/
namespace Mi
open PySem PySem.Spec PyProof.Rows L2
section
variable {X : Cx} {F : Fm} {W : WX} {a : Expr} {ms : M (List S)} {pos p : Pos}
def srtI (ns : List Int) : List Int := ns.mergeSort fun a b => decide (a ≤ b)
theorem srtI_ok (ns : List Int) : (srtI ns).Perm ns ∧ (srtI ns).Pairwise (· ≤ ·) := by
  refine ⟨List.mergeSort_perm _ _, ?_⟩
  have h := List.pairwise_mergeSort (le := fun a b : Int => decide (a ≤ b)) (fun a b c h1 h2 => by
    have h1 := of_decide_eq_true h1
    have h2 := of_decide_eq_true h2
    exact decide_eq_true (by omega)) (fun a b => by
    by_cases q : a ≤ b
    · simp [q]
    · simp [q]; omega) ns
  exact h.imp fun q => of_decide_eq_true q
theorem srtI_eq {ns ns' : List Int} (h : ns'.Perm ns) (w : ns'.Pairwise (· ≤ ·)) : ns' = srtI ns := by
  obtain ⟨h1, h2⟩ := srtI_ok ns
  exact List.Perm.eq_of_pairwise (fun a b _ _ q r => Int.le_antisymm q r) w h2 (h.trans h1.symm)
def fSorted : List D → Option S
  | [.lst xs] => (match intsD xs with
    | some ns => if ns.length < 64 then some (.own (.lst ((srtI ns).map .int))) else none
    | none => none)
  | _ => none
theorem c_sorted : CaS F fSorted (rSorted F.G.K) := by
  intro Φ H σ τ tm vs ds s Q rl hd hf k
  unfold fSorted at hf
  split at hf
  · split at hf
    · rename_i ns e4
      split at hf
      · rename_i hz
        cases hf
        obtain ⟨v, rfl, h⟩ := rd1 hd
        obtain ⟨b, ws, e2, e3, q⟩ := h.lst rl.le
        subst e2
        rw [ints_fz q e4] at e3
        refine ⟨b, ns, rfl, .inl (.inl e3), hz, fun ns' l pm pw hl => ?_⟩
        rw [srtI_eq pm pw]
        exact k _ _ _ (rl.mine hl (fz_ints _))
      · cases hf
    · cases hf
  · cases hf
theorem x_sorted (ft : Fits X F W) (hm : X.mg "sorted" = none) (ha : LM X F W [a] ms) (hg : Gl X "sorted" := by rfl) (he : starEach [a] X.env = (false, eval a X.env) :: starEach [] X.env := by rfl) : EM X F W (.Call (.Name "sorted" p) [a] [] pos) (eCB fSorted ms) := em_callB cr_sorted (by rw [ft.K]; exact c_sorted) hm ha (by decide +kernel) hg (by decide) (by decide) he rfl
end
end Mi

/-! ### M29: o.m(k = v, ..) -/
namespace Mi
open PySem PySem.Spec PyProof.Rows L2
section
variable {X : Cx} {F : Fm} {W : WX} {Φ Φ' H H' : Hp} {σ : L2.St} {τ τ' : List S} {tm : Env1} {o : Expr} {mo : M S} {pos : Pos} {ms : M (List S)} {k n : Nat} {mf : Fn} {ks : List Str} {ix : List Nat}
def BindK (fd : FuncData) (ps ks : List Str) (ix : List Nat) : Prop := ∀ (s : Shared) (v : Value) (ws : List Value), ws.length = ks.length → BindsTo s fd ⟨[v], ks.zip ws⟩ (ps.zip (v :: pick .none ix ws))
theorem pe_methAK {m : Str} {pl : Sem Bool} {apos : Pos} {ta : L2.TE} {t : L2.TA} {kws : List Keyword} (he : PE X o ta) (room : Room k X.A) (tk : Takes X W) (ha : PK X kws t) (hall : (backToKw pos (keywordEach kws X.env)).all (·.1.isSome) = true) (hks : (backToKw pos (keywordEach kws X.env)).filterMap (·.1) = ks)
    (hpl : ((backTo pos (starEach [] X.env)).any (·.1) || (backToKw pos (keywordEach kws X.env)).any (·.1.isNone)) = false)
    (ht : eval (.Call (.Attribute o m apos) [] kws pos) X.env = (do
      let ov ← eval o X.env
      standAt apos.atName
      let (f, first) ← holding [ov] (getMethod ov m pl)
      callWith pos f first (backTo pos (starEach [] X.env)) (backToKw pos (keywordEach kws X.env)))) :
    PE X (.Call (.Attribute o m apos) [] kws pos) (fun σ H Q => ta σ H fun x H1 => ∃ b C dx fs f fd ps sp, x = .ref b ∧ H1 b = some (.ins C dx fs) ∧ fs.lookup m = none ∧ Cls X.K C ∧ Meth X.K C m f ∧ FnOk X.prog X.w X.K X.mg X.base (L2.CX X.prog X.w) k f fd ps sp ∧ BindK fd ps ks ix ∧ t σ H1 fun zs H2 => zs.length = ks.length ∧ sp (x :: pick .non ix zs) H2 Q (WE W σ)) := by
  refine ⟨fun pins s σ H Q In h => ?_⟩
  refine PySem.W.methodCall_KW (pl := pl) (thn (he.run pins s σ H _ In h) fun u s1 ⟨x, H1, In1, rx, b, C, dx, fs, f, fd, ps, sp, ex, eb, l, c, hm, Ok, bd, q⟩ => ?_) ht
  subst ex
  obtain rfl : u = Value.ref b := rx
  refine getmeth_ok In1 eb c hm l ?_
  refine PySem.W.callWith_KW0 (first := [.ref b]) (h₀ := X.base) In.ok.mod.kin hm.kp hall ?_ hpl
  refine thn (ha.run pos pins s1 σ H1 _ In1 q) fun ws s2 ⟨zs, H2, In2, rz, hl, q2⟩ => ⟨In2.kIn, ?_⟩
  rw [hks]
  refine wpAny_call (codeAny_mono (Ok.run X.A X.stack s2 H2 ⟨[.ref b], ks.zip ws⟩ (.ref b :: pick .none ix ws) (.ref b :: pick .non ix zs) Q (WE W σ) room In2.env0 (bd s2 _ ws (by rw [← rz.length]; exact hl)) (.cons rfl (pick_vals rz)) q2) fun r s' hq => ?_)
  cases r with
  | error e => exact passAt tk σ pins H2 s2 e s' In2 hq
  | ok fl =>
    cases fl with
    | ret u => exact In2.after hq
    | next => exact False.elim hq
    | brk => exact False.elim hq
    | cont => exact False.elim hq
structure MetK (P : Program) (w : World) (K : PySem.W.Frag) (mg : Str → Option Value) (base : Heap) (G : Gx) (k : Nat) (m : Str) (n : Nat) (ks : List Str) (ix : List Nat) (tab : Str → Option Fn) : Prop where
  ex : ∀ c mf, tab c = some mf → ∀ C, G.cls c = some C → ∃ f fd ps, Cls K C ∧ Meth K C m f ∧ FnOk P w K mg base (L2.CX P w) k f fd ps (spM G n mf) ∧ BindK fd ps ks ix
  pr : ∀ c mf, tab c = some mf → Proper mf
  ar : ∀ c mf, tab c = some mf → ∀ ss, mf ss ≠ .stuck → ss.length = n
def onMethK (ix : List Nat) (nk : Nat) (mf : Fn) (s : S) (ss : List S) : M S := M.bnd (takeAll ss) fun ds => if ds.length = nk then onMeth mf s ((pick .non ix ds).map S.val) else fun _ => .stuck
def eMethK (m : Str) (ix : List Nat) (nk : Nat) (tab : Str → Option Fn) (mo : M S) (ms : M (List S)) : M S := M.bnd mo fun s0 => M.bnd (norm s0) fun s => fun τ => match insAt τ s with
  | some (c, fs) => (match tab c, fs.lookup m with
    | some mf, none => (M.bnd ms fun ss => onMethK ix nk mf s ss) τ
    | _, _ => .stuck)
  | none => .stuck
theorem on_methK {v : V} {s : S} {vs : List V} {ss : List S} {Q : VK} (pr : Proper mf) (hn : ∀ ss, mf ss ≠ .stuck → ss.length = n) (l : vs.length = ss.length) (r : Rl F Φ H σ τ ((vs.map some).zip ss ++ ((some v, s) :: tm))) (h : Wp F W tm (onMethK ix ks.length mf s ss τ) fun s τ' => ∀ v H' Φ', Rl F Φ' H' σ τ' ((some v, s) :: tm) → Q v H') : vs.length = ks.length ∧ spM F.G n mf (v :: pick .non ix vs) H Q (WE W σ) := by
  obtain ⟨ds, τ2, e, p2⟩ := takeAll_cases (Wp.bnd h)
  obtain ⟨Φ2, r2, q⟩ := Rl.takenAll l r e
  split at p2
  · rename_i hz
    refine ⟨by rw [q.length]; exact hz, on_meth (Φ := Φ2) pr hn ?_ ?_ p2⟩
    · rw [List.length_map, (pick_fz (ix := ix) q).length]
    · exact r2.vals (pick_fz q)
  · exact p2.elim
theorem t_methK {m : Str} {tab : Str → Option Fn} {Q : VK} (mk : MetK X.prog X.w X.K X.mg X.base F.G k m n ks ix tab) (h : TEm F W (eMethK m ix ks.length tab mo ms) σ H Q) : TEm F W mo σ H fun x H1 => ∃ b C dx fs f fd ps sp, x = .ref b ∧ H1 b = some (.ins C dx fs) ∧ fs.lookup m = none ∧ Cls X.K C ∧ Meth X.K C m f ∧ FnOk X.prog X.w X.K X.mg X.base (L2.CX X.prog X.w) k f fd ps sp ∧ BindK fd ps ks ix ∧ TLm F W ms σ H1 fun zs H2 => zs.length = ks.length ∧ sp (x :: pick .non ix zs) H2 Q (WE W σ) := by
  obtain ⟨Φ, τ, tm, rl, h⟩ := h
  refine te_go rl h.bnd fun s0 τ1 v H1 Φ1 p1 r1 => ?_
  obtain ⟨s, τ2, Φ2, r2, p2⟩ := norm_cases r1 (Wp.bnd p1)
  cases e : insAt τ2 s with
  | none => simp only [e] at p2; exact p2.elim
  | some cf =>
    obtain ⟨c, fs⟩ := cf
    simp only [e] at p2
    obtain ⟨b, C, dx, vs, rfl, hb, g, ff⟩ := insAt_ok r2 r2.hd e
    cases e1 : tab c with
    | none => simp only [e1] at p2; exact p2.elim
    | some mf =>
      cases e2 : fs.lookup m with
      | some _ => simp only [e1, e2] at p2; exact p2.elim
      | none =>
        simp only [e1, e2] at p2
        obtain ⟨f, fd, ps, c1, c2, Ok, bd⟩ := mk.ex c mf e1 C g
        exact ⟨b, C, dx, vs, f, fd, ps, _, rfl, hb, FzF.look0 ff e2, c1, c2, Ok, bd, tl_go r2 (Wp.bnd p2) fun ss τ3 vs' H3 Φ3 p3 l r3 => on_methK (mk.pr c mf e1) (mk.ar c mf e1) l r3 p3⟩
theorem em_methK {m : Str} {tab : Str → Option Fn} {pl : Sem Bool} {apos : Pos} {kws : List Keyword} (ft : Fits X F W) (hr : Room k X.A) (mk : MetK X.prog X.w X.K X.mg X.base F.G k m n ks ix tab) (he : EM X F W o mo) (ha : KM X F W kws ms) (hall : (backToKw pos (keywordEach kws X.env)).all (·.1.isSome) = true := by rfl) (hks : (backToKw pos (keywordEach kws X.env)).filterMap (·.1) = ks := by rfl)
    (hpl : ((backTo pos (starEach [] X.env)).any (·.1) || (backToKw pos (keywordEach kws X.env)).any (·.1.isNone)) = false := by rfl)
    (ht : eval (.Call (.Attribute o m apos) [] kws pos) X.env = (do
      let ov ← eval o X.env
      standAt apos.atName
      let (f, first) ← holding [ov] (getMethod ov m pl)
      callWith pos f first (backTo pos (starEach [] X.env)) (backToKw pos (keywordEach kws X.env))) := by rfl) :
    EM X F W (.Call (.Attribute o m apos) [] kws pos) (eMethK m ix ks.length tab mo ms) := PE.imp (pe_methAK he hr ft.tk ha hall hks hpl ht) fun σ H Q h => t_methK mk h
end
end Mi

/-! ### M30: list(zip(x, y)) of two tuples of one length -/
namespace Mi
open PySem PySem.Spec PyProof.Rows L2
open RZ (nextOf_tuple_item nextOf_tuple_end)
section
variable {prog : Program} {w : World} {A : Around} {E : Value → Shared → Prop} {s : Shared}
theorem wpAny_alive {M : Model} {a : Addr} {Q : Option Obj → Shared → Prop} (h : Q (s.heap.get? a) s) : wpAny M A (loadIfAlive a) Q E s := fun Γ p hΓ => by
  unfold loadIfAlive
  rw [Sem.wp_loadIfAlive]
  exact wpAny_pure h Γ p hΓ
abbrev IsZipB (h : Heap) (z TI TO last : Addr) (b : Bool) : Prop := h.get? z = some { cls := .type "zip", dict := none, data := .fields #[rawInt last, .bool b, .bool false, .ref TI, .ref TO], slots := #[] }
theorem free_busy {z TI TO last : Addr} {b : Bool} {Q : Bool → Shared → Prop} (hz : IsZipB s.heap z TI TO last b) (hT : ∃ o, s.heap.get? last = some o) (h : ∀ h', IsZipB h' z TI TO last true → Heap.SameBut z s.heap h' → Q false { s with heap := h' }) :
    wpAny (model prog w) A (Builtin.SmallTypes.ownedTupleIsFree (.ref z)) Q E s := by
  obtain ⟨o, ho⟩ := hT
  unfold Builtin.SmallTypes.ownedTupleIsFree
  refine wpAny_bind (wpAny_field hz rfl (x := rawInt last) rfl ?_)
  show wpAny _ _ (loadIfAlive (last : Int).toNat >>= _) _ _ _
  refine wpAny_bind (wpAny_alive ?_)
  rw [Int.toNat_natCast, ho]
  show wpAny _ _ (field (.ref z) 1 >>= _) _ _ _
  refine wpAny_bind (wpAny_field hz rfl (x := .bool b) rfl ?_)
  cases b with
  | true => exact wpAny_pure (h s.heap hz ⟨rfl, fun _ _ => rfl⟩)
  | false =>
    show wpAny _ _ (setField (.ref z) 1 (.bool true) >>= _) _ _ _
    refine wpAny_bind (wpAny_setField_rec hz (by simp) fun h₁ hz₁ hs₁ => ?_)
    exact wpAny_pure (h h₁ hz₁ hs₁)
structure Apart7 (z TI i1 i2 l1 l2 : Addr) : Prop where
  TIz : TI ≠ z
  TIi1 : TI ≠ i1
  TIi2 : TI ≠ i2
  i1z : i1 ≠ z
  i2z : i2 ≠ z
  i12 : i1 ≠ i2
  l1z : l1 ≠ z
  l1i1 : l1 ≠ i1
  l2z : l2 ≠ z
  l2i1 : l2 ≠ i1
  l2i2 : l2 ≠ i2
theorem busy_item {z TI TO last i1 i2 l1 l2 : Addr} {k1 k2 : Nat} {xs ys : Array Value} {x y : Value} {b : Bool} {Q : Value → Shared → Prop} (D : ZipApart z TI TO i1 i2 l1 l2)
    (hz : IsZipB s.heap z TI TO last b) (hT : ∃ o, s.heap.get? last = some o) (hTI : IsPair s.heap TI (.ref i1) (.ref i2))
    (h1 : s.heap.IsTupleIter i1 l1 k1) (h2 : s.heap.IsTupleIter i2 l2 k2) (hl1 : s.heap.IsTuple l1 xs) (hl2 : s.heap.IsTuple l2 ys) (hx : xs[k1]? = some x) (hy : ys[k2]? = some y)
    (hQ : ∀ h', IsZipB h' z TI TO last true → h'.IsTupleIter i1 l1 (k1 + 1) → h'.IsTupleIter i2 l2 (k2 + 1) → IsPair h' s.heap.objs.size x y → h'.objs.size = s.heap.objs.size + 1 →
      (∀ c o, c ≠ z → c ≠ i1 → c ≠ i2 → s.heap.get? c = some o → h'.get? c = some o) → Q (.ref s.heap.objs.size) { s with heap := h' }) :
    wpAny (model prog w) A (Builtin.«zip.__next__» ⟨[.ref z], []⟩) (fun fin s' => ∃ v, fin = .done (.ret v) ∧ Q v s') E s := by
  show wpAny _ _ (field (.ref z) 2 >>= _) _ _ _
  refine wpAny_bind (wpAny_field hz rfl (x := .bool false) rfl ?_)
  show wpAny _ _ (field (.ref z) 3 >>= _) _ _ _
  refine wpAny_bind (wpAny_field hz rfl (x := .ref TI) rfl ?_)
  refine wpAny_bind (wpAny_seqItems hTI rfl ?_)
  show wpAny _ _ (Builtin.SmallTypes.ownedTupleIsFree (.ref z) >>= _) _ _ _
  refine wpAny_bind (free_busy hz hT fun h₁ hz₁ hs₁ => ?_)
  simp only [Bool.false_eq_true, if_false]
  refine wpAny_bind ?_
  rw [← Array.forIn_toList]
  simp only [List.forIn_cons, List.forIn_nil]
  refine wpAny_bind (wpAny_bind (wpAny_holding ?_))
  show wpAny _ _ (Builtin.SmallTypes.nextOf (.ref i1) >>= _) _ _ _
  refine wpAny_bind (nextOf_tuple_item (h1.extBut hs₁.extBut D.i1z) (hl1.extBut hs₁.extBut D.l1z) hx fun h₂ h1₂ hs₂ => wpAny_pure (wpAny_pure ?_))
  refine wpAny_bind (wpAny_bind (wpAny_holding ?_))
  show wpAny _ _ (Builtin.SmallTypes.nextOf (.ref i2) >>= _) _ _ _
  refine wpAny_bind (nextOf_tuple_item ((h2.extBut hs₁.extBut D.i2z).extBut hs₂.extBut D.i12.symm)
    ((hl2.extBut hs₁.extBut D.l2z).extBut hs₂.extBut D.l2i1) hy fun h₄ h2₄ hs₄ => wpAny_pure (wpAny_pure (wpAny_pure ?_)))
  refine wpAny_bind (wpAny_newTuple (hsz := by show 2 ≤ sizeLine; decide) ?_)
  have hsz : h₄.objs.size = s.heap.objs.size := by rw [hs₄.1, hs₂.1, hs₁.1]
  have hz₄ : IsZipB h₄ z TI TO last true := hs₄.extBut _ _ D.i2z.symm (hs₂.extBut _ _ D.i1z.symm hz₁)
  have hk : ∀ c o, c ≠ z → c ≠ i1 → c ≠ i2 → s.heap.get? c = some o → h₄.get? c = some o := fun c o c1 c3 c4 e => hs₄.extBut _ _ c4 (hs₂.extBut _ _ c3 (hs₁.extBut _ _ c1 e))
  have h1₄ : h₄.IsTupleIter i1 l1 (k1 + 1) := h1₂.extBut hs₄.extBut D.i12
  refine wpAny_pure ⟨_, rfl, ?_⟩
  have hT₈ : IsPair (h₄.push { cls := .type "tuple", data := .seq #[x, y] }) h₄.objs.size x y := Heap.get?_push_size _ rfl
  have hz8 : (h₄.push { cls := .type "tuple", data := .seq #[x, y] }).objs.size = h₄.objs.size + 1 := Heap.size_push ..
  show Q (.ref h₄.objs.size) _
  have up : ∀ c o, h₄.get? c = some o → (h₄.push { cls := .type "tuple", data := .seq #[x, y] }).get? c = some o := fun c o e => Heap.get?_push_of_some _ e
  rw [hsz] at hT₈ hz8
  rw [hsz]
  exact hQ _ (up _ _ hz₄) (h1₄.at fun o e => up _ o e) (h2₄.at fun o e => up _ o e) hT₈ hz8 fun c o c1 c3 c4 e => up c o (hk c o c1 c3 c4 e)
theorem busy_end {z TI TO last i1 i2 l1 l2 : Addr} {k1 k2 : Nat} {xs ys : Array Value} {b : Bool} {Q : Fin → Shared → Prop} (hh : A.handled = none) (D : ZipApart z TI TO i1 i2 l1 l2)
    (hz : IsZipB s.heap z TI TO last b) (hT : ∃ o, s.heap.get? last = some o) (hTI : IsPair s.heap TI (.ref i1) (.ref i2))
    (h1 : s.heap.IsTupleIter i1 l1 k1) (hl1 : s.heap.IsTuple l1 xs) (hx : xs[k1]? = none)
    (hE : ∀ h' e, (∀ c o, c ≠ z → c ≠ i1 → c ≠ i2 → s.heap.get? c = some o → h'.get? c = some o) → (∃ o, h'.get? e = some o ∧ o.cls = .type "StopIteration") → E (.ref e) { s with heap := h' }) :
    wpAny (model prog w) A (Builtin.«zip.__next__» ⟨[.ref z], []⟩) Q E s := by
  show wpAny _ _ (field (.ref z) 2 >>= _) _ _ _
  refine wpAny_bind (wpAny_field hz rfl (x := .bool false) rfl ?_)
  show wpAny _ _ (field (.ref z) 3 >>= _) _ _ _
  refine wpAny_bind (wpAny_field hz rfl (x := .ref TI) rfl ?_)
  refine wpAny_bind (wpAny_seqItems hTI rfl ?_)
  show wpAny _ _ (Builtin.SmallTypes.ownedTupleIsFree (.ref z) >>= _) _ _ _
  refine wpAny_bind (free_busy hz hT fun h₁ hz₁ hs₁ => ?_)
  simp only [Bool.false_eq_true, if_false]
  refine wpAny_bind ?_
  rw [← Array.forIn_toList]
  simp only [List.forIn_cons, List.forIn_nil]
  refine wpAny_bind (wpAny_bind (wpAny_holding ?_))
  show wpAny _ _ (Builtin.SmallTypes.nextOf (.ref i1) >>= _) _ _ _
  exact wpAny_bind (nextOf_tuple_end hh (h1.extBut hs₁.extBut D.i1z) (hl1.extBut hs₁.extBut D.l1z) hx fun h₂ e hs₂ he => hE h₂ e (fun c o c1 c3 _ x => hs₂ _ _ c3 (hs₁.extBut _ _ c1 x)) he)
theorem pyNext_busy_item {z TI TO last i1 i2 l1 l2 : Addr} {k1 k2 : Nat} {xs ys : Array Value} {x y : Value} {b : Bool} {Q : Option Value → Shared → Prop} (D : ZipApart z TI TO i1 i2 l1 l2)
    (hz : IsZipB s.heap z TI TO last b) (hT : ∃ o, s.heap.get? last = some o) (hTI : IsPair s.heap TI (.ref i1) (.ref i2))
    (h1 : s.heap.IsTupleIter i1 l1 k1) (h2 : s.heap.IsTupleIter i2 l2 k2) (hl1 : s.heap.IsTuple l1 xs) (hl2 : s.heap.IsTuple l2 ys) (hx : xs[k1]? = some x) (hy : ys[k2]? = some y)
    (hQ : ∀ h', IsZipB h' z TI TO last true → h'.IsTupleIter i1 l1 (k1 + 1) → h'.IsTupleIter i2 l2 (k2 + 1) → IsPair h' s.heap.objs.size x y → h'.objs.size = s.heap.objs.size + 1 →
      (∀ c o, c ≠ z → c ≠ i1 → c ≠ i2 → s.heap.get? c = some o → h'.get? c = some o) → Q (some (.ref s.heap.objs.size)) { s with heap := h' }) :
    wpAny (model prog w) A (pyNext (.ref z)) Q E s := by
  have hT0 : s.TypeIs (.ref z) "zip" := ⟨_, hz, rfl⟩
  unfold pyNext
  exact wpAny_bind (wpAny_attempt (wpAny_callSpecial?_slot (name := Str.ofString "__next__") hT0 F.slot_zip_next
    (wpAny_call_entry F.slot_zip_next hT0 F.entry_zip_next
      (busy_item D hz hT hTI h1 h2 hl1 hl2 hx hy fun h' a1 a3 a4 a5 a6 a7 => wpAny_pure (hQ h' a1 a3 a4 a5 a6 a7)) (F.args_zip_next_1 _))))
theorem pyNext_busy_end {z TI TO last i1 i2 l1 l2 : Addr} {k1 k2 : Nat} {xs ys : Array Value} {b : Bool} {Q : Option Value → Shared → Prop} (hh : A.handled = none) (D : ZipApart z TI TO i1 i2 l1 l2)
    (hz : IsZipB s.heap z TI TO last b) (hT : ∃ o, s.heap.get? last = some o) (hTI : IsPair s.heap TI (.ref i1) (.ref i2))
    (h1 : s.heap.IsTupleIter i1 l1 k1) (hl1 : s.heap.IsTuple l1 xs) (hx : xs[k1]? = none)
    (hQ : ∀ h', (∀ c o, c ≠ z → c ≠ i1 → c ≠ i2 → s.heap.get? c = some o → h'.get? c = some o) → Q none { s with heap := h' }) : wpAny (model prog w) A (pyNext (.ref z)) Q E s := by
  have hT0 : s.TypeIs (.ref z) "zip" := ⟨_, hz, rfl⟩
  unfold pyNext
  refine wpAny_bind (wpAny_attempt (wpAny_callSpecial?_slot (name := Str.ofString "__next__") hT0 F.slot_zip_next
    (wpAny_call_entry F.slot_zip_next hT0 F.entry_zip_next (busy_end (k1 := k1) (k2 := k2) (ys := ys) hh D hz hT hTI h1 hl1 hx fun h' e hk he => ?_) (F.args_zip_next_1 _))))
  obtain ⟨o, ho, hc⟩ := he
  refine wpAny_bind (wpAny_isInstance (T := "StopIteration") (b := true) ⟨o, ho, hc⟩ isSubtype_stop ?_)
  exact wpAny_pure (hQ _ hk)
end
/-- tuples made one behind another -/
inductive Chain : Hp → List V → List V → Hp → List V → Prop
  | nil {H : Hp} : Chain H [] [] H []
  | cons {H H2 : Hp} {T : Addr} {x y : V} {xs ys vs : List V} : H T = none → Chain (upd H T (.tup [x, y])) xs ys H2 vs → Chain H (x :: xs) (y :: ys) H2 (.ref T :: vs)
theorem Chain.ext {H H2 : Hp} {xs ys vs : List V} (c : Chain H xs ys H2 vs) : Ext H H2 := by
  induction c with
  | nil => exact Ext.rfl'
  | cons h c ih => exact (Ext.upd h).trans ih
/-- the zip object, before its first turn and behind it -/
def ZSt (h : Heap) (z TI TO : Addr) : Prop := (IsZip h z TI TO .none ∧ ∃ x y, IsPair h TO x y) ∨ ∃ last b, IsZipB h z TI TO last b ∧ ∃ o, h.get? last = some o
theorem ZSt.on {h h' : Heap} {z TI TO : Addr} (st : ZSt h z TI TO) (k : ∀ b o, h.get? b = some o → h'.get? b = some o) : ZSt h' z TI TO := by
  rcases st with ⟨a, x, y, p⟩ | ⟨l, b, a, o, e⟩
  · exact .inl ⟨k _ _ a, x, y, k _ _ p⟩
  · exact .inr ⟨l, b, k _ _ a, o, k _ _ e⟩
section
variable {X : Cx} {pins : List (Addr × Obj)} {σ : L2.St}
theorem FpOk.to {H H' : Hp} {b : Addr} (f : FpOk X pins H b) (h : H' b = none) : FpOk X pins H' b := ⟨h, f.2⟩
theorem zip_loop {A : Around} {R : Result → Shared → Prop} {S z TI TO i1 i2 a b : Addr} {res : Value} {xs0 ys0 : List V} (hh : A.handled = none) (D : ZipApart z TI TO i1 i2 a b) (hS5 : S ∉ [z, TI, TO, i1, i2]) (hSab : S ≠ a ∧ S ≠ b) :
    ∀ (rx ry : List V) (i : Nat) (out : List V) (s : Shared) (H : Hp) (acc : Array Value) (c : Nat), xs0.drop i = rx → ys0.drop i = ry → rx.length = ry.length → Inv X pins σ H s → (∀ q ∈ [z, TI, TO, i1, i2, S], FpOk X pins H q) → SqT X.K H a xs0 → SqT X.K H b ys0 →
      ZSt s.heap z TI TO → (∃ o, s.heap.get? TO = some o) → IsPair s.heap TI (.ref i1) (.ref i2) → s.heap.IsTupleIter i1 a i → s.heap.IsTupleIter i2 b i → s.heap.get? S = some { cls := .type "list", dict := none, data := .seq acc c, slots := #[] } → Vals out acc.toList → out.length + rx.length ≤ sizeLine →
      (∀ s' acc' c' H' vs, Chain H rx ry H' vs → Inv X pins σ H' s' → H' S = none → s'.heap.get? S = some { cls := .type "list", dict := none, data := .seq acc' c', slots := #[] } → Vals (out ++ vs) acc'.toList → R (.ok (.ret res)) s') →
      codeAny (model X.prog X.w) A (.builtin "list.extend.loop" ⟨[.ref S, .ref z, res], []⟩) R s := by
  have nS : ∀ q ∈ [z, TI, TO, i1, i2], S ≠ q := fun q hq e => hS5 (e ▸ hq)
  intro rx
  induction rx with
  | nil =>
    intro ry i out s H acc c hx hy hl I hf ha hb st hTO hTI h1 h2 hS hv hle fin
    cases ry with
    | cons _ _ => cases hl
    | nil =>
      refine codeAny_builtin F.entry_extend_loop ?_
      rw [Around.under_plainId F.plain_extend_loop _]
      show wpAny _ A.in1 (pyNext (.ref z) >>= _) _ _ s
      obtain ⟨its, rv, p1, _⟩ := I.tuple ha
      obtain ⟨its2, rv2, p2, _⟩ := I.tuple hb
      have e1 : its.toArray[i]? = none := by
        have := rv.length
        have := List.drop_eq_nil_iff.mp hx
        simp; omega
      have done : ∀ h' : Heap, (∀ q o, q ∉ [z, TI, TO, i1, i2] → s.heap.get? q = some o → h'.get? q = some o) → R (.ok (.ret res)) { s with heap := h' } := fun h' k => by
        refine fin { s with heap := h' } acc c H [] .nil ?_ (hf S (by simp)).1 (k S _ (fun z => hS5 z) hS) (by rw [List.append_nil]; exact hv)
        exact I.turnedL (t' := s.toks) (ch := [z, TI, TO, i1, i2]) k fun q hq => hf q (by
          have : q ∈ [z, TI, TO, i1, i2, S] := by
            simp only [List.mem_cons, List.not_mem_nil, or_false] at hq ⊢
            rcases hq with q | q | q | q | q <;> simp [q]
          exact this)
      rcases st with ⟨q1, x0, y0, q2⟩ | ⟨l, bb, q1, q2⟩
      · exact wpAny_bind (RZ.pyNext_zipT_end hh D q1 hTI q2 h1 h2 p1 p2 (.inl e1) fun h' k => wpAny_pure (done h' fun q o hq e => k q o (fun z => hq (by simp [z])) (fun z => hq (by simp [z])) (fun z => hq (by simp [z])) (fun z => hq (by simp [z])) e))
      · exact wpAny_bind (pyNext_busy_end (k1 := i) (k2 := i) (ys := its2.toArray) hh D q1 q2 hTI h1 p1 e1 fun h' k => wpAny_pure (done h' fun q o hq e => k q o (fun z => hq (by simp [z])) (fun z => hq (by simp [z])) (fun z => hq (by simp [z])) e))
  | cons x rx ih =>
    intro ry i out s H acc c hx hy hl I hf ha hb st hTO hTI h1 h2 hS hv hle fin
    cases ry with
    | nil => cases hl
    | cons y ry =>
      have gx : xs0[i]? = some x := by
        have := congrArg (·[0]?) hx
        simpa using this
      have gy : ys0[i]? = some y := by
        have := congrArg (·[0]?) hy
        simpa using this
      have dx : xs0.drop (i + 1) = rx := by
        have := congrArg (List.drop 1) hx
        simpa [List.drop_drop] using this
      have dy : ys0.drop (i + 1) = ry := by
        have := congrArg (List.drop 1) hy
        simpa [List.drop_drop] using this
      refine codeAny_builtin F.entry_extend_loop ?_
      rw [Around.under_plainId F.plain_extend_loop _]
      show wpAny _ A.in1 (pyNext (.ref z) >>= _) _ _ s
      obtain ⟨its, rv, p1, _⟩ := I.tuple ha
      obtain ⟨its2, rv2, p2, _⟩ := I.tuple hb
      obtain ⟨u, hu, ru⟩ := rv.get gx
      obtain ⟨u2, hu2, ru2⟩ := rv2.get gy
      have go : ∀ h' : Heap, ZSt h' z TI TO → (∃ o, h'.get? TO = some o) → h'.IsTupleIter i1 a (i + 1) → h'.IsTupleIter i2 b (i + 1) → IsPair h' s.heap.objs.size u u2 → (∀ q o, q ≠ z → q ≠ TO → q ≠ i1 → q ≠ i2 → s.heap.get? q = some o → h'.get? q = some o) →
          wpAny (model X.prog X.w) A.in1 (updateSeq S (·.push (.ref s.heap.objs.size)) >>= fun _ => again (.builtin "list.extend.loop" ⟨[.ref S, .ref z, res], []⟩)) (fun fin s' => match fin with | .done f => R (.ok f) s' | .again c' => c'.quiet = true ∧ codeAny (model X.prog X.w) A c' R s') (fun e s' => R (.error e) s') { s with heap := h' } := fun h' zs hTO' t1 t2 hT k => by
        have fr : H s.heap.objs.size = none := I.hok.fresh (Nat.le_refl _)
        have lts : ∀ q ∈ [z, TI, TO, i1, i2, S], q < s.heap.objs.size := fun q hq => by
          have e' : q = z ∨ q = TI ∨ q = TO ∨ q = i1 ∨ q = i2 ∨ q = S := by simpa using hq
          rcases e' with e | e | e | e | e | e
          · rw [e]
            rcases st with ⟨q1, _⟩ | ⟨l, bb, q1, _⟩
            · exact Heap.lt_size q1
            · exact Heap.lt_size q1
          · rw [e]; exact Heap.lt_size hTI
          · rw [e]; obtain ⟨_, e1⟩ := hTO; exact Heap.lt_size e1
          · rw [e]; obtain ⟨_, e1, _⟩ := h1; exact Heap.lt_size e1
          · rw [e]; obtain ⟨_, e1, _⟩ := h2; exact Heap.lt_size e1
          · rw [e]; exact Heap.lt_size hS
        have hfz : ∀ q ∈ [z, TI, TO, i1, i2], FpOk X pins H q := fun q hq => hf q (by
          simp only [List.mem_cons, List.not_mem_nil, or_false] at hq ⊢
          rcases hq with q | q | q | q | q <;> simp [q])
        have new : ObjOk X.prog X.w (upd H s.heap.objs.size (.tup [x, y])) h' s.heap.objs.size (.tup [x, y]) :=
          ⟨by show 2 ≤ sizeLine; decide, [u, u2], .cons ru (.cons ru2 .nil), ⟨_, hT, rfl, _, rfl⟩⟩
        have I1 : Inv X pins σ (upd H s.heap.objs.size (.tup [x, y])) { s with heap := h' } :=
          I.turnedNew (t' := s.toks) (ch := [z, TI, TO, i1, i2]) (fun q o hq e => k q o (fun z => hq (by simp [z])) (fun z => hq (by simp [z])) (fun z => hq (by simp [z])) (fun z => hq (by simp [z])) e) hfz (Nat.le_refl _) new
        have hf1 : ∀ q ∈ [z, TI, TO, i1, i2, S], FpOk X pins (upd H s.heap.objs.size (.tup [x, y])) q := fun q hq => FpOk.to (hf q hq) (by rw [upd_ne (Nat.ne_of_lt (lts q hq))]; exact (hf q hq).1)
        have hS1 : h'.get? S = some { cls := .type "list", dict := none, data := .seq acc c, slots := #[] } := k S _ (nS z (by simp)) (nS TO (by simp)) (nS i1 (by simp)) (nS i2 (by simp)) hS
        obtain ⟨f0, f1, f2, f3, f4, f5⟩ := hf1 S (by simp)
        have oth : ∀ q o, q ≠ S → h'.get? q = some o → (h'.update S (Obj.mapSeq (·.push (.ref s.heap.objs.size)))).get? q = some o := fun q o hq e => (Heap.get?_update_other _ _ (Ne.symm hq)).trans e
        have I2 : Inv X pins σ (upd H s.heap.objs.size (.tup [x, y])) { s with heap := h'.update S (Obj.mapSeq (·.push (.ref s.heap.objs.size))) } := I1.turned (t' := s.toks) (fun q o hq e => oth q o hq e) f0 f1 f3 f4 f5
        have hacc : acc.size = out.length := by
          have := hv.length
          simpa using this.symm
        have nsz : S ≠ s.heap.objs.size := Nat.ne_of_lt (lts S (by simp))
        have hle' : out.length + (rx.length + 1) ≤ sizeLine := hle
        refine wpAny_bind ?_
        refine wpAny_updateSeq hS1 rfl (wpAny_pure ⟨plainId_quiet F.plain_extend_loop _, ih ry (i + 1) (out ++ [.ref s.heap.objs.size]) { s with heap := h'.update S (Obj.mapSeq (·.push (.ref s.heap.objs.size))) } _ _ _ dx dy (by simpa using hl) I2 hf1 (SqT.ext ha (Ext.upd fr)) (SqT.ext hb (Ext.upd fr)) ?_ ?_ ?_ ?_ ?_ (Heap.get?_update_self _ hS1 rfl) ?_ ?_ ?_⟩) (by omega) (by show (acc.push _).size ≤ sizeLine + 1; rw [Array.size_push]; omega)
        · rcases zs with ⟨q1, x1, y1, q2⟩ | ⟨l, bb, q1, o, q2⟩
          · exact .inl ⟨oth _ _ (nS z (by simp)).symm q1, x1, y1, oth _ _ (nS TO (by simp)).symm q2⟩
          · refine .inr ⟨l, bb, oth _ _ (nS z (by simp)).symm q1, ?_⟩
            by_cases e : l = S
            · rw [e]
              exact ⟨_, Heap.get?_update_self _ hS1 rfl⟩
            · exact ⟨o, oth _ _ e q2⟩
        · obtain ⟨o, e⟩ := hTO'
          exact ⟨o, oth _ _ (nS TO (by simp)).symm e⟩
        · exact oth _ _ (nS TI (by simp)).symm (k TI _ D.TIz D.TITO D.TIi1 D.TIi2 hTI)
        · exact t1.at fun o e => oth _ _ (nS i1 (by simp)).symm e
        · exact t2.at fun o e => oth _ _ (nS i2 (by simp)).symm e
        · rw [Array.toList_push]
          exact hv.append (.cons rfl .nil)
        · rw [List.length_append]
          show out.length + 1 + rx.length ≤ sizeLine
          omega
        · intro s' acc' c' H' vs ch I' hn' hS' hv'
          refine fin s' acc' c' H' (.ref s.heap.objs.size :: vs) (.cons fr ch) I' hn' hS' ?_
          have e : out ++ V.ref s.heap.objs.size :: vs = out ++ [V.ref s.heap.objs.size] ++ vs := by simp
          rw [e]
          exact hv'
      rcases st with ⟨q1, x0, y0, q2⟩ | ⟨l, bb, q1, q2⟩
      · exact wpAny_bind (RZ.pyNext_zipT_item D q1 hTI q2 h1 h2 p1 p2 (x := u) (y := u2) (by simpa using hu) (by simpa using hu2) fun h' a1 a2 a3 a4 a5 a6 a7 => go h' (.inr ⟨_, false, a1, _, a5⟩) ⟨_, a2⟩ a3 a4 a5 a7)
      · refine wpAny_bind (pyNext_busy_item D q1 q2 hTI h1 h2 p1 p2 (x := u) (y := u2) (by simpa using hu) (by simpa using hu2) fun h' a1 a3 a4 a5 a6 a7 => ?_)
        obtain ⟨o2, q2⟩ := q2
        obtain ⟨oT, eT⟩ := hTO
        have hl : ∃ o, h'.get? l = some o := by
          by_cases e1 : l = z
          · exact ⟨_, by rw [e1]; exact a1⟩
          · by_cases e2 : l = i1
            · obtain ⟨o, e, _⟩ := a3
              exact ⟨o, by rw [e2]; exact e⟩
            · by_cases e3 : l = i2
              · obtain ⟨o, e, _⟩ := a4
                exact ⟨o, by rw [e3]; exact e⟩
              · exact ⟨o2, a7 l o2 e1 e2 e3 q2⟩
        exact go h' (.inr ⟨l, true, a1, hl⟩) ⟨oT, a7 TO oT D.TOz D.TOi1 D.TOi2 eT⟩ a3 a4 a5 fun q o c1 _ c3 c4 e => a7 q o c1 c3 c4 e
end
end Mi

/-! ### M31: x == y, x != y by an own __eq__ -/
namespace Mi
open PySem PySem.Spec PyProof.Rows L2
section
variable {prog : Program} {w : World} {A : Around} {E : Value → Shared → Prop} {s : Shared} {K : PySem.W.Frag} {x C f : Addr} {L : Addr} {h₀ : Heap} {m : Str → Option Value} {ox : Obj} {od : Option Obj} {b tb : Value}
theorem ifBound_ne {M : Model} {args : List Value} {Q : Option Value → Shared → Prop} (kin : K.In s.heap) (I : PySem.W.InstAt s.heap x ox C od) (hs : PySem.W.findIn K (.ref C) "__ne__" = some (some (.builtin "object.__ne__")))
    (h : wpAny M A (call (.builtin "object.__ne__") (.ref x :: args)) (fun v => Q (some v)) E s) : wpAny M A (callSpecialIfBound? (.ref x) "__ne__" args) Q E s := by
  simp only [callSpecialIfBound?, bindSpecialIfBound?]
  refine wpAny_holding (wpAny_bind (wpAny_bind (wpAny_bind (I.type.here ((PySem.W.looks_findIn kin hs).here ?_)))))
  refine wpAny_bind (wpAny_askSetting (wpAny_ite ?_))
  have fin : wpAny M A (call (.builtin "object.__ne__") ([.ref x] ++ args) >>= fun v => pure (some v)) Q E s := wpAny_bind (wpAny_mono h (fun v s' h' => wpAny_pure h') fun _ _ h' => h')
  have hb : bindSpecial (.builtin "object.__ne__") (.ref x) = pure (.builtin "object.__ne__", [.ref x]) := PySem.F.slot_object_ne.bind _
  split
  · exact wpAny_bind (wpAny_of_eq hb (wpAny_pure (by exact fin)))
  · exact wpAny_tryCatch (wpAny_bind (wpAny_of_eq hb (wpAny_pure (by exact fin))))
theorem objNe {Q : Fin → Shared → Prop} (hu : A.units < cLine) (kin : K.In s.heap) (I : PySem.W.InstAt s.heap x ox C od) (hs : PySem.W.findIn K (.ref C) "__eq__" = some (some (.ref f))) (hf : PySem.W.isFn K (.ref f) = true)
    (hc : wpAny (model prog w) A (call (.ref f) [.ref x, b]) (fun v s' => ∃ k, v = .bool k ∧ Q (.done (.ret (.bool (!k)))) s') E s) :
    wpAny (model prog w) A (Builtin.«object.__ne__» ⟨[.ref x, b], []⟩) Q E s := by
  unfold Builtin.«object.__ne__»
  repeat (first
    | with_reducible refine wpAny_cRoomFor hu ?_
    | (refine wpAny_bind (m := callSpecialIfBound? (.ref x) (Str.ofString "__eq__") [b])
        (PySem.W.ifBound_K kin I hs hf (wpAny_mono hc (fun r s' hr => by
          obtain ⟨k, rfl, hq⟩ := hr
          repeat (first | exact hq | exact wpAny_pure hq | exact wpAny_truthy_bool hq | (refine wpAny_bind (m := truthy (.bool _)) (wpAny_truthy_bool ?_)) | wp_step)) fun _ _ e => e)))
    | wp_step)
theorem cmp_ne {Q : Value → Shared → Prop} (hu : A.units + 1 < cLine) (X : K.In s.heap) (I : PySem.W.InstAt s.heap x ox C od) (hb : PySem.W.Looks (model prog w) s.heap (typeOf b) tb) (hn : PySem.W.notFirst K C tb = true)
    (hs : PySem.W.findIn K (.ref C) "__eq__" = some (some (.ref f))) (hf : PySem.W.isFn K (.ref f) = true) (hne : PySem.W.findIn K (.ref C) "__ne__" = some (some (.builtin "object.__ne__"))) (hsub : PySem.W.subIn K (.ref C) (.type "object") = some true)
    (h : wpAny (model prog w) A.in1 (call (.ref f) [.ref x, b]) (fun v s' => ∃ k, v = .bool k ∧ Q (.bool (!k)) s') E s) : wpAny (model prog w) A (richCompare .NotEq (.ref x) b) Q E s := by
  have one : wpAny (model prog w) A (tryCompare (.ref x) (cmpInfo .NotEq).2.1 b) (fun r s' => ∃ v, r = some v ∧ Q v s') E s := by
    unfold tryCompare
    show wpAny _ A (callSpecialIfBound? (.ref x) "__ne__" [b] >>= _) _ _ _
    have inst : PySem.W.Looks (model prog w) s.heap (isInstance (.ref x) (.type "object")) true := I.type.andThen (PySem.W.looks_subIn X hsub)
    refine wpAny_bind (ifBound_ne X I hne (wpAny_call (codeAny_call_builtin PySem.F.slot_object_ne.plain PySem.F.cmpEntry_ne (@PySem.W.check_slot (model prog w) _ _ s "object.__ne__" "object" "__ne__" (.ref x) [b] [] _ PySem.F.cmpKind_ne PySem.F.cmpSplit_ne inst (PySem.F.cmpArgs_ne _ _) ?_))))
    refine objNe (A := A.in1) hu X I hs hf (wpAny_mono h (fun v s' hv => ?_) fun _ _ e => e)
    obtain ⟨k, rfl, q⟩ := hv
    refine ⟨k, rfl, ?_⟩
    first | exact wpAny_pure ⟨_, rfl, q⟩ | exact ⟨_, rfl, q⟩
  unfold richCompare
  simp only [oneThing_ref]
  refine wpAny_holding (wpAny_bind (wpAny_cRoomFor (Nat.lt_of_succ_lt hu) ?_))
  refine wpAny_bind (I.type.here (wpAny_bind (hb.here ?_)))
  split
  · rename_i q
    have e : PySem.W.subIn K tb (.ref C) = some false := by
      rcases Bool.or_eq_true_iff.mp hn with e | e
      · rw [beq_iff_eq.mp e] at q; simp at q
      · exact beq_iff_eq.mp e
    refine wpAny_bind ((PySem.W.looks_subIn X e).here ?_)
    simp only [Bool.false_eq_true, if_false]
    refine wpAny_bind (wpAny_mono one (fun r s' z => ?_) fun _ _ e => e)
    obtain ⟨v, rfl, hq⟩ := z
    exact wpAny_pure hq
  · refine wpAny_bind (wpAny_pure ?_)
    simp only [Bool.false_eq_true, if_false]
    refine wpAny_bind (wpAny_mono one (fun r s' z => ?_) fun _ _ e => e)
    obtain ⟨v, rfl, hq⟩ := z
    exact wpAny_pure hq
end
section
variable {X : Cx} {F : Fm} {W : WX} {Φ Φ' H H' : Hp} {σ : L2.St} {τ τ' : List S} {tm : Env1} {a b : Expr} {ma mb : M S} {pos : Pos} {k n : Nat} {ta tb : L2.TE}
def opN (neg : Bool) : CmpOp := if neg = true then .NotEq else .Eq
def rOwn (X : Cx) (W : WX) (k : Nat) (neg : Bool) (σ : L2.St) : R2 := fun x y H Q => ∃ a C dx fs f fd ps sp w, x = .ref a ∧ H a = some (.ins C dx fs) ∧ PySem.W.findIn X.K (.ref C) "__eq__" = some (some (.ref f)) ∧ PySem.W.isFn X.K (.ref f) = true ∧
  PySem.W.findIn X.K (.ref C) "__ne__" = some (some (.builtin "object.__ne__")) ∧ PySem.W.subIn X.K (.ref C) (.type "object") = some true ∧ TyE X.K H y w ∧ PySem.W.notFirst X.K C w = true ∧
  FnOk X.prog X.w X.K X.mg X.base (L2.CX X.prog X.w) k f fd ps sp ∧ Binds X.K fd ps [] ∧ sp [x, y] H (fun v H' => ∃ q, v = .bl q ∧ Q (.bl (neg ^^ q)) H') (WE W σ)
theorem run_own {neg : Bool} {pins : List (Addr × Obj)} {s : Shared} {x y : V} {v u : Value} {Q : VK} (hr : Room (k + 1) X.A) (tk : Takes X W) (I : Inv X pins σ H s) (rx : RelV x v) (ry : RelV y u) (h : rOwn X W k neg σ x y H Q) : wpAny (model X.prog X.w) X.A (compareOp (opN neg) v u) (EP X pins σ Q) X.xe s := by
  obtain ⟨a, C, dx, fs, f, fd, ps, sp, w, rfl, ha, h1, h2, h3, h4, ty, nf, Ok, bd, q⟩ := h
  cases rx
  obtain ⟨Pz, kit, kp, _⟩ := kit_ofE I ry ty
  have tyL := kit.ty (model X.prog X.w) s.heap I.kIn kp
  obtain ⟨mA, J, _⟩ := ins_get I.hok ha
  obtain ⟨od, J, _⟩ := J.look
  obtain ⟨m, hF⟩ := I.fr
  have hl : [V.ref a, y].length = ps.length := Ok.len _ _ _ _ q
  have r2 : Vals [V.ref a, y] [Value.ref a, u] := .cons rfl (.cons ry .nil)
  have e0 : ∀ {A : Around}, A.frames = X.A.frames → Env0 X.prog X.w X.K X.mg X.base A X.stack s H := fun {A} hf => by
    have e := I.env0
    exact ⟨by rw [hf]; exact e.frames, e.mod, e.bs, e.bsz, e.funs, e.frf, e.hok, e.bare⟩
  have go : ∀ {A : Around}, Room k A → A.frames = X.A.frames → wpAny (model X.prog X.w) A (call (.ref f) [.ref a, u]) (fun r s' => ∃ q, r = .bool q ∧ ∃ H', Inv X pins σ H' s' ∧ Q (.bl (neg ^^ q)) H') X.xe s := fun {A} ra hf => by
    refine wpAny_call (codeAny_mono (Ok.run A X.stack s H ⟨[.ref a, u], []⟩ [.ref a, u] [.ref a, y] _ (WE W σ) ra (e0 hf) (by
      have := bd s [.ref a, u] I.kIn (by simpa using hl)
      simpa using this) r2 q) fun r s' hq => ?_)
    cases r with
    | error e => exact passAt tk σ pins H s e s' I hq
    | ok fl =>
      cases fl with
      | ret w =>
        obtain ⟨z, H', I', rz, qq, ez, qz⟩ := I.after hq
        subst ez
        cases rz
        exact ⟨qq, rfl, H', I', qz⟩
      | next => exact False.elim hq
      | brk => exact False.elim hq
      | cont => exact False.elim hq
  cases neg with
  | false =>
    show wpAny (model X.prog X.w) X.A (richCompare .Eq (.ref a) u) (EP X pins σ Q) X.xe s
    refine PySem.W.cmp_K (op := .Eq) (tb := w) hr.units0 hF I.ok.mod.kin J tyL nf h1 h2 (wpAny_mono (go (hr.mono (Nat.le_succ _)) rfl) (fun r s' z => ?_) fun _ _ e => e)
    obtain ⟨q, rfl, H', I', qz⟩ := z
    exact ⟨.bl q, H', I', rfl, by simpa using qz⟩
  | true =>
    show wpAny (model X.prog X.w) X.A (richCompare .NotEq (.ref a) u) (EP X pins σ Q) X.xe s
    refine cmp_ne (tb := w) (by have := hr.un; omega) I.kIn J tyL nf h1 h2 h3 h4 (wpAny_mono (go hr.in1 rfl) (fun r s' z => ?_) fun _ _ e => e)
    obtain ⟨q, rfl, H', I', qz⟩ := z
    exact ⟨q, rfl, .bl (!q), H', I', rfl, by simpa using qz⟩
theorem pe_own {neg : Bool} {op : CmpOp} (ho : op = opN neg) (hr : Room (k + 1) X.A) (tk : Takes X W) (ha : PE X a ta) (hb : PE X b tb) (hm : behindInMarks op b = false) : PE X (.Compare a [op] [b] pos) (fun σ H Q => ta σ H fun x H1 => tb σ H1 fun y H2 => rOwn X W k neg σ x y H2 Q) := by
  subst ho
  refine ⟨fun pins s σ H Q I h => ?_⟩
  exact wpAny_Compare1 (binT ha hb I h fun v u s2 x y H2 I2 rx ry q => run_own hr tk I2 rx ry q) hm
theorem pt_own {neg : Bool} {op : CmpOp} (ho : op = opN neg) (hr : Room (k + 1) X.A) (tk : Takes X W) (ha : PE X a ta) (hb : PE X b tb) (hm : behindInMarks op b = false) : PT X (.Compare a [op] [b] pos) (tTest fun σ H Q => ta σ H fun x H1 => tb σ H1 fun y H2 => rOwn X W k neg σ x y H2 Q) := by
  subst ho
  refine ⟨fun pins s σ H Q I h => ?_⟩
  refine wpAny_isTrue_Compare1 (thn (ha.run pins s σ H _ I h) fun v s1 ⟨x, H1, I1, r1, q1⟩ => thn (hb.run pins s1 σ H1 _ I1 q1) fun u s2 ⟨y, H2, I2, r2, q2⟩ =>
    thn (run_own hr tk I2 r1 r2 q2) fun c s3 ⟨z, H3, I3, r3, k, e, q3⟩ => ?_) hm
  subst e
  cases r3
  exact wpAny_truthy_bool ⟨H3, I3, q3⟩
/-- classes with an own __eq__ -/
structure EqOk (P : Program) (w : World) (K : PySem.W.Frag) (mg : Str → Option Value) (base : Heap) (G : Gx) (k : Nat) (tab : Str → Option Fn) (okT : Str → Tg → Bool) (tb : IsT) : Prop where
  ex : ∀ c mf, tab c = some mf → ∀ C, G.cls c = some C → ∃ f fd ps, PySem.W.findIn K (.ref C) "__eq__" = some (some (.ref f)) ∧ PySem.W.isFn K (.ref f) = true ∧ PySem.W.findIn K (.ref C) "__ne__" = some (some (.builtin "object.__ne__")) ∧
    PySem.W.subIn K (.ref C) (.type "object") = some true ∧ FnOk P w K mg base (L2.CX P w) k f fd ps (spM G 2 mf) ∧ Binds K fd ps [] ∧ ∀ t w, okT c t = true → TgV G K t w → PySem.W.notFirst K C w = true
  is : ∀ c t, okT c t = true → ∃ u b, tb t u = some b
  ok : IsOk K G tb
  pr : ∀ c mf, tab c = some mf → Proper mf
  ar : ∀ c mf, tab c = some mf → ∀ ss, mf ss ≠ .stuck → ss.length = 2
def eOwn (neg : Bool) (tab : Str → Option Fn) (okT : Str → Tg → Bool) (ma mb : M S) : M S := M.bnd ma fun s1 => M.bnd mb fun s2 => M.bnd (take s2) fun d2 => M.bnd (take s1) fun d1 => fun τ => match d1 with
  | .ins c fs => (match tab c, tagOf d2 with
    | some mf, some t => if okT c t = true then (match mf ([.ins c fs, d2].map S.val) with
      | .ok (.val (.bl q), _) => .ok (.val (.bl (neg ^^ q)), τ)
      | .exc cc gs _ => .exc cc gs τ
      | _ => .stuck) else .stuck
    | _, _ => .stuck)
  | _ => .stuck
theorem t_own {neg : Bool} {tab : Str → Option Fn} {okT : Str → Tg → Bool} {tb : IsT} {Q : VK} (hK : X.K = F.G.K) (eo : EqOk X.prog X.w X.K X.mg X.base F.G k tab okT tb) (h : TEm F W (eOwn neg tab okT ma mb) σ H Q) : TEm F W ma σ H fun x H1 => TEm F W mb σ H1 fun y H2 => rOwn X W k neg σ x y H2 Q := by
  obtain ⟨Φ, τ, tm, rl, h⟩ := h
  refine te_go rl h.bnd fun s1 τ1 v H1 Φ1 p1 r1 => te_go r1 p1.bnd fun s2 τ2 u H2 Φ2 p2 r2 => ?_
  obtain ⟨d2, τ3, e1, p3⟩ := take_cases p2.bnd
  obtain ⟨Φ3, r3⟩ := Rl.taken r2 e1
  have r3' : Rl F Φ3 H2 σ τ3 ((some v, s1) :: (some u, .val d2) :: tm) := r3.air (.perm (List.Perm.swap _ _ _))
  obtain ⟨d1, τ4, e2, p4⟩ := take_cases p3.bnd
  obtain ⟨Φ4, r4⟩ := Rl.taken r3' e2
  obtain ⟨_, ev, f1⟩ := r4.hd
  cases ev
  obtain ⟨_, ev, f2⟩ := r4.tl.hd
  cases ev
  cases d1 with
  | ins c fs =>
    simp only at p4
    cases et : tab c with
    | none => simp only [et] at p4; exact p4.elim
    | some mf =>
      cases eg : tagOf d2 with
      | none => simp only [et, eg] at p4; exact p4.elim
      | some t =>
        simp only [et, eg] at p4
        split at p4
        · rename_i hok
          have f1' := f1
          cases f1 with
          | ins q1 g q3 =>
            obtain ⟨f, fd, ps, c1, c2, c3, c4, Ok, bd, nf⟩ := eo.ex c mf et _ g
            obtain ⟨w, ty, tg⟩ := ty_v (X := X) eo.ok hK r4.le (.inl f2) eg (eo.is c t hok)
            refine ⟨_, _, _, _, f, fd, ps, _, w, rfl, r4.le _ _ q1, c1, c2, c3, c4, ty, nf t w hok tg, Ok, bd, ?_⟩
            refine sp_plain (ds := [.ins c fs, d2]) (eo.pr c mf et) (eo.ar c mf et) r4.tl.tl (.cons f1' (.cons f2 .nil)) ?_
            cases hm : mf ([.ins c fs, d2].map S.val) with
            | stuck => rw [hm] at p4; exact p4.elim
            | exc cc gs out => rw [hm] at p4; exact p4
            | ok pr =>
              obtain ⟨r', out⟩ := pr
              rw [hm] at p4
              cases r' with
              | val d =>
                cases d with
                | bl q =>
                  intro v' H' Φ' r5
                  obtain ⟨_, ev, fv⟩ := r5.hd
                  cases ev
                  cases fv
                  exact ⟨q, rfl, p4 _ _ _ (r5.tl.val (.bl _))⟩
                | _ => exact p4.elim
              | _ => exact p4.elim
        · exact p4.elim
  | _ => exact p4.elim
theorem em_own {neg : Bool} {op : CmpOp} {tab : Str → Option Fn} {okT : Str → Tg → Bool} {tb : IsT} (ft : Fits X F W) (hr : Room (k + 1) X.A) (eo : EqOk X.prog X.w X.K X.mg X.base F.G k tab okT tb) (ha : EM X F W a ma) (hb : EM X F W b mb) (ho : op = opN neg := by rfl) (hm : behindInMarks op b = false := by first | exact nomark b | with_unfolding_all rfl) :
    EM X F W (.Compare a [op] [b] pos) (eOwn neg tab okT ma mb) := PE.imp (pe_own ho hr ft.tk ha hb hm) fun σ H Q h => t_own ft.K eo h
theorem bm_own {neg : Bool} {op : CmpOp} {tab : Str → Option Fn} {okT : Str → Tg → Bool} {tb : IsT} (ft : Fits X F W) (hr : Room (k + 1) X.A) (eo : EqOk X.prog X.w X.K X.mg X.base F.G k tab okT tb) (ha : EM X F W a ma) (hb : EM X F W b mb) (ho : op = opN neg := by rfl) (hm : behindInMarks op b = false := by first | exact nomark b | with_unfolding_all rfl) :
    BM X F W (.Compare a [op] [b] pos) (bVal (eOwn neg tab okT ma mb)) := PT.imp (pt_own ho hr ft.tk ha hb hm) fun σ H Q h => by
  obtain ⟨Φ, τ, tm, rl, h⟩ := h
  refine t_own ft.K eo ⟨Φ, τ, tm, rl, (Wp.bnd h).mono fun s τ' p v H' Φ' r' => ?_⟩
  obtain ⟨q, e, p2⟩ := Wp.of p
  have := one_bl r'.hd e
  exact ⟨q, this, p2 H' Φ' r'.tl⟩
end
section
variable {fa : List He.Fa} {fn : List He.DefD} {tq : List Tq} {exs : PySem.W.Frag → List Bool} {P : Program} {w : World} {K : PySem.W.Frag} {mg : Str → Option Value} {base : Heap} {k n : Nat} {mf : Fn} {c f m : Str} {ps : List Str} {fd : FuncData}
def eqB (c : Str) (ts : List Tg) (K : PySem.W.Frag) : Bool := (He.Fa.glo c).ok K && (He.eqO (PySem.W.findIn K (.ref (He.ga K c)) "__eq__") (some (some (.ref (He.fAd K (c, some "__eq__"))))) && (PySem.W.isFn K (.ref (He.fAd K (c, some "__eq__"))) &&
  (He.eqO (PySem.W.findIn K (.ref (He.ga K c)) "__ne__") (some (some (.builtin "object.__ne__"))) && (decide (PySem.W.subIn K (.ref (He.ga K c)) (.type "object") = some true) && ts.all fun t => tgB K t && PySem.W.notFirst K (He.ga K c) (tgV K t)))))
def okTs (ts : List Tg) (_ : Str) (t : Tg) : Bool := ts.any fun z => tgEq z t
def Eq1 (P : Program) (w : World) (K : PySem.W.Frag) (mg : Str → Option Value) (base : Heap) (G : Gx) (k : Nat) (ts : List Tg) (c : Str) (mf : Fn) : Prop :=
  (∀ C, G.cls c = some C → ∃ f fd ps, PySem.W.findIn K (.ref C) "__eq__" = some (some (.ref f)) ∧ PySem.W.isFn K (.ref f) = true ∧ PySem.W.findIn K (.ref C) "__ne__" = some (some (.builtin "object.__ne__")) ∧
    PySem.W.subIn K (.ref C) (.type "object") = some true ∧ FnOk P w K mg base (L2.CX P w) k f fd ps (spM G 2 mf) ∧ Binds K fd ps [] ∧ ∀ t w, okTs ts c t = true → TgV G K t w → PySem.W.notFirst K C w = true) ∧ Proper mf ∧ ∀ ss, mf ss ≠ .stuck → ss.length = 2
theorem eq1 {ts : List Tg} (hd : HdOk fa fn tq exs K mg base) (h : eqB c ts K = true) (ok : FnOk P w K mg base (L2.CX P w) k (He.fAd K (c, some "__eq__")) fd ps (spM (gxOf tq K mg) 2 mf)) (b : Binds K fd ps []) (pr : Proper mf) (ar : ∀ ss, mf ss ≠ .stuck → ss.length = 2) : Eq1 P w K mg base (gxOf tq K mg) k ts c mf := by
  obtain ⟨h1, h⟩ := He.ba h
  obtain ⟨h2, h⟩ := He.ba h
  obtain ⟨h3, h⟩ := He.ba h
  obtain ⟨h4, h⟩ := He.ba h
  obtain ⟨h5, h6⟩ := He.ba h
  refine ⟨fun C g => ?_, pr, ar⟩
  rw [hd.gat h1 g]
  refine ⟨_, fd, ps, He.eqO_ok h2, h3, He.eqO_ok h4, of_decide_eq_true h5, ok, b, fun t w ht tg => ?_⟩
  obtain ⟨z, hz, ez⟩ := List.any_eq_true.mp ht
  have := tgEq_ok ez
  subst this
  obtain ⟨q1, q2⟩ := He.ba (List.all_eq_true.mp h6 _ hz)
  have e : w = tgV K z := by
    cases tg with
    | bt n => rfl
    | ins g => exact congrArg Value.ref (hd.gat (He.ba q1).1 g)
    | exc g => exact congrArg Value.ref (hd.gat (He.ba q1).1 g)
  rw [e]
  exact q2
theorem Eq1.up {j : Nat} {G : Gx} {ts : List Tg} (h : Eq1 P w K mg base G j ts c mf) (le : j ≤ k) : Eq1 P w K mg base G k ts c mf := ⟨fun C g => by
  obtain ⟨f, fd, ps, a, b, c1, d1, o, r⟩ := h.1 C g
  exact ⟨f, fd, ps, a, b, c1, d1, o.mono le, r⟩, h.2⟩
theorem eqOk {G : Gx} {l : List (Str × Fn)} {ts : List Tg} {tb : IsT} (ok : IsOk K G tb) (is : (ts.all fun t => [Cl.bt "int", .bt "list", .bt "tuple"].any fun u => (tb t u).isSome) = true) (h : ∀ e ∈ l, Eq1 P w K mg base G k ts e.1 e.2) : EqOk P w K mg base G k (fun x => l.lookup x) (okTs ts) tb :=
  ⟨fun c mf e C g => (h _ (PySem.mem_of_lookup e)).1 C g, fun c t ht => by
    obtain ⟨z, hz, ez⟩ := List.any_eq_true.mp ht
    have := tgEq_ok ez
    subst this
    obtain ⟨u, _, hu⟩ := List.any_eq_true.mp (List.all_eq_true.mp is _ hz)
    obtain ⟨b, hb⟩ := Option.isSome_iff_exists.mp hu
    exact ⟨u, b, hb⟩, ok, fun c mf e => (h _ (PySem.mem_of_lookup e)).2.1, fun c mf e => (h _ (PySem.mem_of_lookup e)).2.2⟩
end
end Mi

/-! ### M32: list(zip(x, y)), the call; max and min of two -/
namespace Mi
open PySem PySem.Spec PyProof.Rows L2
theorem nolen_zip : typeLookup (.type "zip") "__len__" = pure none := by rw [typeLookup_type, builtinLookup_eq_fast]; kernel_rfl
theorem nohint_zip : typeLookup (.type "zip") "__length_hint__" = pure none := by rw [typeLookup_type, builtinLookup_eq_fast]; kernel_rfl
section
variable {X : Cx} {pins : List (Addr × Obj)} {σ : L2.St} {H : Hp} {s : Shared}
/-- a list that was laid is tracked from now on -/
theorem trackL {a : Addr} {xs : List V} {its : Array Value} {c : Nat} (I : Inv X pins σ H s) (he : s.heap.get? a = some { cls := .type "list", dict := none, data := .seq its c, slots := #[] }) (r : Vals xs its.toList) (hl : xs.length ≤ sizeLine) (hn : H a = none) (n0 : X.s_0.heap.get? a = none) (nL : a ≠ X.env.locals) (nC : ∀ y c, X.env.cells.lookup y = some c → c ≠ a)
    (nP : ∀ p ∈ X.pn ++ pins, p.1 ≠ a) : Inv X pins σ (upd H a (.lst xs)) s := by
  have ne : ∀ {b : Addr} {u : HO}, H b = some u → b ≠ a := fun {b u} q => ne_of_none q hn
  refine ⟨I.ok, I.os, I.bare, ⟨I.base.keep, I.base.slot, fun b o e n hx => ?_, I.base.there, fun b xs e => ?_, fun b o u e => ?_, fun b ps e => ?_⟩, I.loc, I.cell, ?_, fun y c e => ?_, fun p hp => ?_, fun b o e => ?_, I.len⟩
  · rw [upd_ne (fun z => by rw [z, n0] at e; cases e)]
    exact I.base.free b o e n hx
  · have q := I.base.tups b xs e
    rw [upd_ne (ne q)]
    exact q
  · have q := I.base.frzs b o u e
    rw [upd_ne (ne q)]
    exact q
  · obtain ⟨more, q⟩ := I.base.tbls b ps e
    exact ⟨more, by rw [upd_ne (ne q)]; exact q⟩
  · rw [upd_ne (Ne.symm nL)]
    exact I.free
  · rw [upd_ne (nC y c e)]
    exact I.freeC y c e
  · obtain ⟨e1, e2, e3, e4, e5⟩ := I.pin p hp
    exact ⟨e1, by rw [upd_ne (nP p hp)]; exact e2, e3, e4, e5⟩
  · by_cases hb : b = a
    · subst hb
      rw [upd_same] at e
      cases e
      exact ⟨hl, its.toList, c, r, by rw [Array.toArray_toList]; exact he⟩
    · rw [upd_ne hb] at e
      exact (I.hok b o e).stay (fun c v _ z => z) (fun c hc => by rw [upd_ne (ne hc)]; exact hc) (fun c xs hc => by rw [upd_ne (ne hc)]; exact hc)
theorem call_list_zip {A : Around} {E : Value → Shared → Prop} {z TI TO i1 i2 a b : Addr} {xs ys : List V} {Q : VK} (hh : A.handled = none) (D : ZipApart z TI TO i1 i2 a b) (I : Inv X pins σ H s) (hf : ∀ q ∈ [z, TI, TO, i1, i2], FpOk X pins H q) (ha : SqT X.K H a xs) (hb : SqT X.K H b ys) (hl : xs.length = ys.length) (hle : xs.length ≤ sizeLine)
    (hz : IsZip s.heap z TI TO .none) (hTI : IsPair s.heap TI (.ref i1) (.ref i2)) (hTO : IsPair s.heap TO .none .none) (h1 : s.heap.IsTupleIter i1 a 0) (h2 : s.heap.IsTupleIter i2 b 0)
    (q : ∀ H' vs p, Chain H xs ys H' vs → H' p = none → Q (.ref p) (upd H' p (.lst vs))) : wpAny (model X.prog X.w) A (call (.type "list") [.ref z]) (EP X pins σ Q) E s := by
  have lz : ∀ q ∈ [z, TI, TO, i1, i2], q < s.heap.objs.size := fun q hq => by
    have e' : q = z ∨ q = TI ∨ q = TO ∨ q = i1 ∨ q = i2 := by simpa using hq
    rcases e' with e | e | e | e | e
    · rw [e]; exact Heap.lt_size hz
    · rw [e]; exact Heap.lt_size hTI
    · rw [e]; exact Heap.lt_size hTO
    · rw [e]; obtain ⟨_, e1, _⟩ := h1; exact Heap.lt_size e1
    · rw [e]; obtain ⟨_, e1, _⟩ := h2; exact Heap.lt_size e1
  have hS5 : s.heap.objs.size ∉ [z, TI, TO, i1, i2] := fun hm => Nat.lt_irrefl _ (lz _ hm)
  have hSz : s.heap.objs.size ≠ z := fun e => hS5 (by rw [e]; simp)
  refine callType_codes (Q₁ := fun obj s₁ => obj = .ref s.heap.objs.size ∧ s₁ = { s with heap := s.heap.push { cls := .type "list", data := .seq #[] } }) F.called_list (F.typeCall_list_1 _) F.entry_list_init
    (code_list_new _ ⟨rfl, rfl⟩) fun obj s₁ h₁ => ?_
  obtain ⟨rfl, rfl⟩ := h₁
  have hS : (s.heap.push { cls := .type "list", data := .seq #[] }).get? s.heap.objs.size = some { cls := .type "list", data := .seq #[] } := Heap.get?_push_size _ rfl
  refine ⟨⟨_, hS, rfl⟩, F.args_list_init_2 _ _, ?_⟩
  show wpAny _ A.in1.in1 (do let old ← Builtin.List.listItems (.ref s.heap.objs.size); Builtin.List.listUpdate (.ref s.heap.objs.size) (fun _ => #[]); letGo old.toList.reverse; Builtin.List.listExtendWith (.ref s.heap.objs.size) (.ref z) .none) _ _ _
  refine wpAny_bind ?_
  unfold Builtin.List.listItems
  refine wpAny_bind (wpAny_seqItems hS rfl (wpAny_pure ?_))
  show wpAny _ A.in1.in1 (updateSeq s.heap.objs.size (fun _ => #[]) >>= fun _ => letGo (#[] : Array Value).toList.reverse >>= fun _ => Builtin.List.listExtendWith (.ref s.heap.objs.size) (.ref z) .none) _ _ _
  refine wpAny_bind (wpAny_updateSeq hS rfl ?_)
  have hS2 := Heap.get?_update_self (Obj.mapSeq (fun _ => (#[] : Array Value))) hS rfl
  refine wpAny_bind (wpAny_letGo ?_)
  unfold Builtin.List.listExtendWith
  have up : ∀ (h : Heap) (f : Obj → Obj), (∀ b o, s.heap.get? b = some o → h.get? b = some o) → ∀ b o, s.heap.get? b = some o → (h.update s.heap.objs.size f).get? b = some o := fun h f q b o e =>
    (Heap.get?_update_other _ _ (Ne.symm (Nat.ne_of_lt (Heap.lt_size e)))).trans (q b o e)
  have k1 : ∀ b o, s.heap.get? b = some o → (s.heap.push { cls := .type "list", data := .seq #[] }).get? b = some o := fun b o e => Heap.get?_push_of_some _ e
  have k2 := up _ (Obj.mapSeq (fun _ => (#[] : Array Value))) k1
  refine wpAny_bind (wpAny_typeOf (s := { s with heap := _ }) (T := "zip") ⟨_, k2 _ _ hz, rfl⟩ ?_)
  have g1 : Builtin.List.listSameRef (.ref s.heap.objs.size) (.ref z) = false := by simp [Builtin.List.listSameRef, hSz]
  have g2 : (Value.type "zip" == Value.type "list") = false := by decide
  have g3 : (Value.type "zip" == Value.type "tuple") = false := by decide
  simp only [g1, g2, g3, Bool.or_false, Bool.false_eq_true, if_false]
  refine wpAny_bind (wpAny_pyIter_zip (s := { s with heap := _ }) (k2 _ _ hz) ?_)
  refine wpAny_bind (wpAny_holding ?_)
  unfold Builtin.List.listLengthHint
  refine wpAny_bind (wpAny_specialOf (s := { s with heap := _ }) (T := "zip") ⟨_, k2 _ _ hz, rfl⟩ nolen_zip ?_)
  show wpAny _ A.in1.in1 (specialOf (Value.ref z) (Str.ofString "__length_hint__") >>= _) _ _ _
  refine wpAny_bind (wpAny_specialOf (s := { s with heap := _ }) (T := "zip") ⟨_, k2 _ _ hz, rfl⟩ nohint_zip ?_)
  refine wpAny_pure ?_
  show wpAny _ A.in1.in1 (rule "list.extend.makes-room" >>= fun _ => Builtin.List.listTouch (.ref s.heap.objs.size) >>= fun _ =>
    again (.builtin "list.extend.loop" ⟨[.ref s.heap.objs.size, .ref z, .none], []⟩)) _ _ _
  refine wpAny_bind (wpAny_rule ?_)
  refine wpAny_bind ?_
  show wpAny _ A.in1.in1 (updateSeq s.heap.objs.size (·.push .none) >>= fun _ => updateSeq s.heap.objs.size (·.pop)) _ _ _
  refine wpAny_bind (wpAny_updateSeq hS2 rfl ?_)
  have hS3 := Heap.get?_update_self (Obj.mapSeq (·.push Value.none)) hS2 rfl
  refine wpAny_updateSeq (hz := by seq_fits) hS3 rfl ?_
  have hS4 := Heap.get?_update_self (Obj.mapSeq (·.pop)) hS3 rfl
  have k4 := up _ (Obj.mapSeq (·.pop)) (up _ (Obj.mapSeq (·.push Value.none)) k2)
  refine wpAny_pure ⟨plainId_quiet F.plain_extend_loop _, ?_⟩
  obtain ⟨p1, _⟩ : ∃ o, s.heap.get? a = some o := by
    obtain ⟨its, rv, p, _⟩ := I.tuple ha
    obtain ⟨o, ho, _⟩ := p
    exact ⟨o, ho⟩
  have hSa : s.heap.objs.size ≠ a := fun e => by
    obtain ⟨its, rv, p, _⟩ := I.tuple ha
    obtain ⟨o, ho, _⟩ := p
    exact absurd (Heap.lt_size ho) (by rw [← e]; exact Nat.lt_irrefl _)
  have hSb : s.heap.objs.size ≠ b := fun e => by
    obtain ⟨its, rv, p, _⟩ := I.tuple hb
    obtain ⟨o, ho, _⟩ := p
    exact absurd (Heap.lt_size ho) (by rw [← e]; exact Nat.lt_irrefl _)
  have I4 : Inv X pins σ H { s with heap := _ } := I.kept (t' := s.toks) k4
  have fS : FpOk X pins H s.heap.objs.size := I.fpOk (Nat.le_refl _) (I.hok.fresh (Nat.le_refl _))
  refine zip_loop (A := A.in1) hh D hS5 ⟨hSa, hSb⟩ xs ys 0 [] _ H #[] _ rfl rfl hl I4 (fun q hq => ?_) ha hb (.inl ⟨k4 _ _ hz, _, _, k4 _ _ hTO⟩) ⟨_, k4 _ _ hTO⟩ (k4 _ _ hTI) (h1.at fun o e => k4 _ o e) (h2.at fun o e => k4 _ o e) hS4 .nil (by simpa using hle) fun s' acc' c' H' vs ch I' hn' hS' hv' => ?_
  · have : q ∈ [z, TI, TO, i1, i2] ∨ q = s.heap.objs.size := by simpa [or_assoc] using hq
    rcases this with h | h
    · exact hf q h
    · rw [h]; exact fS
  · obtain ⟨f0, f1, f2, f3, f4, f5⟩ := fS
    have lv : vs.length = xs.length := by
      clear q I' hn' hS' hv' I4 I ha hb hf f0
      induction ch with
      | nil => rfl
      | cons _ _ ih => simp [ih (by simpa using hl) (by simp at hle; omega)]
    have n0 : X.s_0.heap.get? s.heap.objs.size = none := by
      cases e : X.s_0.heap.get? s.heap.objs.size with
      | none => rfl
      | some o => exact absurd (Nat.lt_of_lt_of_le (Heap.lt_size e) I.sz) (Nat.lt_irrefl _)
    refine ⟨rfl, .ref s.heap.objs.size, upd H' s.heap.objs.size (.lst vs), trackL I' hS' (by simpa using hv') (by rw [lv]; exact hle) hn' n0 f1 f4 f5, rfl, q H' vs _ ch hn'⟩
end
end Mi

/-! ### M33: list(zip(..)), max and min of two, errors with two fields, methods with defaults -/
namespace Mi
open PySem PySem.Spec PyProof.Rows L2
section
variable {X : Cx} {F : Fm} {W : WX} {Φ Φ' H H' : Hp} {σ : L2.St} {τ τ' : List S} {tm : Env1} {a b : Expr} {ma mb : M S} {ms : M (List S)} {pos p : Pos}
def tLz (K : PySem.W.Frag) (ta : L2.TA) : L2.TE := fun σ H Q => ta σ H fun vs H1 => ∃ a b xs ys, vs = [.ref a, .ref b] ∧ SqT K H1 a xs ∧ SqT K H1 b ys ∧ xs.length = ys.length ∧ xs.length ≤ sizeLine ∧ ∀ H' vs p, Chain H1 xs ys H' vs → H' p = none → Q (.ref p) (upd H' p (.lst vs))
theorem pe_listZip {e e2 : Expr} {ta : L2.TA} {p p2 pos pos2 : Pos} (hc : X.calm = true) (hg : Gl X "list") (hm : X.mg "list" = none) (hg2 : Gl X "zip") (hm2 : X.mg "zip" = none) (ha : PA X [e, e2] ta)
    (hs : starEach [e, e2] X.env = (false, eval e X.env) :: starEach [e2] X.env) (hpl : (backTo pos2 (starEach [e2] X.env)).any (·.1) = false)
    (na : starEach [Expr.Call (.Name "zip" p2) [e, e2] [] pos2] X.env = (false, eval (.Call (.Name "zip" p2) [e, e2] [] pos2) X.env) :: starEach [] X.env) :
    PE X (.Call (.Name "list" p) [.Call (.Name "zip" p2) [e, e2] [] pos2] [] pos) (tLz X.K ta) := by
  refine ⟨fun pins s σ H Q I h => ?_⟩
  have he : wpAny (model X.prog X.w) X.A (eval (.Call (.Name "zip" p2) [e, e2] [] pos2) X.env) (fun v s2 => ∃ H1 z TI TO i1 i2 a b xs ys, v = .ref z ∧ Inv X pins σ H1 s2 ∧ ZipApart z TI TO i1 i2 a b ∧ (∀ q ∈ [z, TI, TO, i1, i2], FpOk X pins H1 q) ∧ SqT X.K H1 a xs ∧ SqT X.K H1 b ys ∧ xs.length = ys.length ∧ xs.length ≤ sizeLine ∧
      IsZip s2.heap z TI TO .none ∧ IsPair s2.heap TI (.ref i1) (.ref i2) ∧ IsPair s2.heap TO .none .none ∧ s2.heap.IsTupleIter i1 a 0 ∧ s2.heap.IsTupleIter i2 b 0 ∧ ∀ H' vs p, Chain H1 xs ys H' vs → H' p = none → Q (.ref p) (upd H' p (.lst vs))) X.xe s := by
    refine Call_ (ld_blt I hg2 hm2 PyProof.Rows.boot_zip (PyProof.Rows.callWith_type1 (thn (ha.run pos2 pins s σ H _ I h) fun us s1 ⟨vs, H1, I1, r1, q1⟩ => ?_) hs hpl))
    obtain ⟨a, b, xs, ys, ex, ha, hb, hl, hle, q⟩ := q1
    subst ex
    cases r1 with
    | cons r rr =>
      cases rr with
      | cons r' rr =>
        cases rr
        cases r
        cases r'
        have fresh5 : ∀ c, c ∈ [s1.heap.objs.size + 4, s1.heap.objs.size + 2, s1.heap.objs.size + 3, s1.heap.objs.size, s1.heap.objs.size + 1] → FpOk X pins H1 c := fun c hcm => by
          have e' : c = s1.heap.objs.size + 4 ∨ c = s1.heap.objs.size + 2 ∨ c = s1.heap.objs.size + 3 ∨ c = s1.heap.objs.size ∨ c = s1.heap.objs.size + 1 := by simpa using hcm
          have hle : s1.heap.objs.size ≤ c := by
            rcases e' with z | z | z | z | z
            · rw [z]; exact Nat.le_add_right _ _
            · rw [z]; exact Nat.le_add_right _ _
            · rw [z]; exact Nat.le_add_right _ _
            · rw [z]; exact Nat.le_refl _
            · rw [z]; exact Nat.le_add_right _ _
          exact I1.fpOk hle (I1.hok.fresh hle)
        obtain ⟨its, rv, p1, _⟩ := I1.tuple ha
        obtain ⟨its2, rv2, p2, _⟩ := I1.tuple hb
        obtain ⟨o1, ho1, _⟩ := id p1
        obtain ⟨o2, ho2, _⟩ := id p2
        refine RZ.call_zipT (show s1.heap.IsTuple a its.toArray from p1) (show s1.heap.IsTuple b its2.toArray from p2) fun h' hz hTI hTO h1 h2 hsz hk => ?_
        have I2 : Inv X pins σ H1 { s1 with heap := h' } := I1.kept (t' := s1.toks) hk
        exact ⟨H1, s1.heap.objs.size + 4, _, _, _, _, a, b, xs, ys, rfl, I2, PySem.W.ktu_apart s1.heap.objs.size a b (Heap.lt_size ho1) (Heap.lt_size ho2), fresh5, ha, hb, hl, hle, hz, hTI, hTO, h1, h2, q⟩
  refine Call_ (ld_blt I hg hm boot_list (PyProof.Rows.callWith_type1 (args_cons (thn he fun x s1 ⟨H1, z, TI, TO, i1, i2, a, b, xs, ys, ex, I1, D, hf, ha, hb, hl, hle, hz, hTI, hTO, h1, h2, q⟩ => args_nil ?_) na) na))
  subst ex
  exact call_list_zip (I1.ok.hd hc) D I1 hf ha hb hl hle hz hTI hTO h1 h2 q
def zipTT : List D → Option S
  | [.tup xs, .tup ys] => if xs.length = ys.length ∧ xs.length < 1000 then some (.own (.lst (List.zipWith pairD xs ys))) else none
  | _ => none
def eListZip (ms : M (List S)) : M S := M.bnd ms fun ss => M.bnd (takeAll ss) fun ds => M.of (zipTT ds)
theorem zipTT_some {ds : List D} {s : S} (h : zipTT ds = some s) : ∃ xs ys, ds = [.tup xs, .tup ys] ∧ xs.length = ys.length ∧ xs.length < 1000 ∧ s = .own (.lst (List.zipWith pairD xs ys)) := by
  unfold zipTT at h
  split at h
  · split at h
    · rename_i q
      cases h
      exact ⟨_, _, rfl, q.1, q.2, rfl⟩
    · cases h
  · cases h
theorem chain_rl {vs ws zs : List V} {H2 : Hp} (c : Chain H vs ws H2 zs) : ∀ {Φ : Hp} {tm : Env1} {xs ys : List D}, FzL F.G Φ vs xs → FzL F.G Φ ws ys → Rl F Φ H σ τ tm → ∃ Φ2, Rl F Φ2 H2 σ τ tm ∧ FzL F.G Φ2 zs (List.zipWith pairD xs ys) := by
  induction c with
  | nil =>
    intro Φ tm xs ys h1 h2 r
    cases h1
    cases h2
    exact ⟨Φ, r, .nil⟩
  | @cons H H2 T x y vs ws zs hT c ih =>
    intro Φ tm xs ys h1 h2 r
    cases h1 with
    | cons f1 t1 =>
      cases h2 with
      | cons f2 t2 =>
        have fr : Φ T = none := r.fre hT
        have l := le_upd (o := HO.tup [x, y]) fr
        have r1 := r.tuple hT (.cons f1 (.cons f2 .nil))
        obtain ⟨Φ2, r2, q⟩ := ih (FzL.le l t1) (FzL.le l t2) r1
        obtain ⟨_, ev, fv⟩ := r2.hd
        cases ev
        exact ⟨Φ2, r2.tl, .cons fv q⟩
theorem em_listZip {e e2 : Expr} {p2 pos2 : Pos} (ft : Fits X F W) (hm : X.mg "list" = none) (hm2 : X.mg "zip" = none) (ha : LM X F W [e, e2] ms) (hg : Gl X "list" := by rfl) (hg2 : Gl X "zip" := by rfl)
    (hs : starEach [e, e2] X.env = (false, eval e X.env) :: starEach [e2] X.env := by rfl) (hpl : (backTo pos2 (starEach [e2] X.env)).any (·.1) = false := by rfl)
    (na : starEach [Expr.Call (.Name "zip" p2) [e, e2] [] pos2] X.env = (false, eval (.Call (.Name "zip" p2) [e, e2] [] pos2) X.env) :: starEach [] X.env := by rfl) :
    EM X F W (.Call (.Name "list" p) [.Call (.Name "zip" p2) [e, e2] [] pos2] [] pos) (eListZip ms) := PE.imp (pe_listZip ft.calm hg hm hg2 hm2 ha hs hpl na) fun σ H Q ⟨Φ, τ, tm, rl, h⟩ => tl_go rl h.bnd fun ss τ1 vs H1 Φ1 p1 l r1 => by
  obtain ⟨ds, τ2, e, p2⟩ := takeAll_cases (Wp.bnd p1)
  obtain ⟨Φ2, r2, q⟩ := Rl.takenAll l r1 e
  obtain ⟨s, e3, p3⟩ := Wp.of p2
  obtain ⟨xs, ys, rfl, l1, l2, rfl⟩ := zipTT_some e3
  cases q with
  | cons f1 t =>
    cases t with
    | cons f2 t =>
      cases t
      cases f1 with
      | tup s1 t1 =>
        cases f2 with
        | tup s2 t2 =>
          refine ⟨_, _, _, _, rfl, by rw [ft.K]; exact SqT.le s1 r2.le, by rw [ft.K]; exact SqT.le s2 r2.le, by rw [t1.length, t2.length]; exact l1, by rw [t1.length, sizeLine_eq]; omega, fun H' zs p c hp => ?_⟩
          obtain ⟨Φ3, r3, q3⟩ := chain_rl c t1 t2 r2
          exact p3 _ _ _ (r3.mine hp q3)
/-! max, min of two ints -/
def fMax2 : List D → Option S
  | [.int i, .int j] => some (.val (.int (if j > i then j else i)))
  | _ => none
def fMin2 : List D → Option S
  | [.int i, .int j] => some (.val (.int (if j < i then j else i)))
  | _ => none
theorem c_max2 : CaS F fMax2 (fun xs H Q => ∃ i j, xs = [.int i, .int j] ∧ Q (.int (if j > i then j else i)) H) := by
  intro Φ H σ τ tm vs ds s Q rl hd hf k
  unfold fMax2 at hf
  split at hf
  · cases hf
    obtain ⟨v, w, rfl, h1, h2⟩ := rd2 hd
    rw [h1.int, h2.int]
    exact ⟨_, _, rfl, k _ _ _ (rl.val (.int _))⟩
  · cases hf
theorem c_min2 : CaS F fMin2 (fun xs H Q => ∃ i j, xs = [.int i, .int j] ∧ Q (.int (if j < i then j else i)) H) := by
  intro Φ H σ τ tm vs ds s Q rl hd hf k
  unfold fMin2 at hf
  split at hf
  · cases hf
    obtain ⟨v, w, rfl, h1, h2⟩ := rd2 hd
    rw [h1.int, h2.int]
    exact ⟨_, _, rfl, k _ _ _ (rl.val (.int _))⟩
  · cases hf
theorem x_max2 (ft : Fits X F W) (hm : X.mg "max" = none) (ha : LM X F W [a, b] ms) (hg : Gl X "max" := by rfl) (he : starEach [a, b] X.env = (false, eval a X.env) :: starEach [b] X.env := by rfl) (hpl : (backTo pos (starEach [b] X.env)).any (·.1) = false := by rfl) : EM X F W (.Call (.Name "max" p) [a, b] [] pos) (eCB fMax2 ms) := em_callB (call_max2 ft.calm) c_max2 hm ha (by decide +kernel) hg (by decide) (by decide) he hpl
theorem x_min2 (ft : Fits X F W) (hm : X.mg "min" = none) (ha : LM X F W [a, b] ms) (hg : Gl X "min" := by rfl) (he : starEach [a, b] X.env = (false, eval a X.env) :: starEach [b] X.env := by rfl) (hpl : (backTo pos (starEach [b] X.env)).any (·.1) = false := by rfl) : EM X F W (.Call (.Name "min" p) [a, b] [] pos) (eCB fMin2 ms) := em_callB (call_min2 ft.calm) c_min2 hm ha (by decide +kernel) hg (by decide) (by decide) he hpl
end
/-- __init__(self, f, g): self.f = f; self.g = g -/
theorem init2 {P : Program} {w : World} {K : PySem.W.Frag} {mg : Str → Option Value} {base : Heap} {qual f g : Str} {params : Arguments} {scope : Scope} {fI : Addr} {fd : FuncData} {p1 p2 p3 p4 q1 q2 q3 q4 : Pos} (Fu : FunD K "__init__" qual params [.Assign [.Attribute (.Name "self" p1) f p2] (.Name f p3) p4, .Assign [.Attribute (.Name "self" q1) g q2] (.Name g q3) q4] scope [] [] fI fd) (Sc : FnScope ["self", f, g] ["self", f, g] scope)
    (d1 : (f == ("__debug__" : Str)) = false) (d2 : (f == ("__classdict__" : Str)) = false) (d3 : (g == ("__debug__" : Str)) = false) (d4 : (g == ("__classdict__" : Str)) = false) : FnOk P w K mg base (L2.CX P w) 1 fI fd ["self", f, g] (spExi K [f, g]) := by
  have vis : ∀ x ∈ (["self", f, g] : List Str), Vis scope x := fun x hx => by
    rcases Sc.par x hx with q | q
    · exact .inl q
    · exact .inr (.inl q)
  refine Fu.ok Sc (fun vs H Q E h => ?_) (fun cdv A outer s H vs Q E hr h => ⟨_, pss_cons (ps_ost (pe_var (i := 0) rfl (vis _ List.mem_cons_self) (by decide) (by decide)) (pe_var (i := 1) rfl (vis _ (List.mem_cons_of_mem _ List.mem_cons_self)) d1 d2)) (pss_one (ps_ost (pe_var (i := 0) rfl (vis _ List.mem_cons_self) (by decide) (by decide)) (pe_var (i := 2) rfl (vis _ (List.mem_cons_of_mem _ (List.mem_cons_of_mem _ List.mem_cons_self))) d3 d4))), ?_⟩)
  · obtain ⟨a, C, ws, rfl, hl, _⟩ := h
    simp [hl]
  · obtain ⟨a, C, ws, rfl, hl, _, T, nof, ea, go⟩ := h
    match ws, hl with
    | [y, y2], _ =>
      refine ⟨y, rfl, _, rfl, a, C, rfl, T, nof f List.mem_cons_self, .inl ⟨ea, fun dx n ne => ?_⟩⟩
      refine ⟨y2, rfl, _, rfl, a, C, rfl, T, nof g (List.mem_cons_of_mem _ List.mem_cons_self), .inr ⟨dx, [(f, y)], upd_same, by rw [upd_ne ne, upd_same], (by show 1 ≤ 900; decide), ?_⟩⟩
      have := go dx n ne
      have e : upd (upd (upd H dx (exd dx [(f, y)])) a (exo a C (some dx))) dx (exd dx [(g, y2), (f, y)]) = upd (upd H dx (exd dx [(g, y2), (f, y)])) a (exo a C (some dx)) := by
        funext b
        by_cases h1 : b = dx
        · subst h1
          rw [upd_same, upd_ne ne, upd_same]
        · rw [upd_ne h1]
          by_cases h2 : b = a
          · subst h2; rw [upd_same, upd_same]
          · rw [upd_ne h2, upd_ne h1, upd_ne h2, upd_ne h1]
      show Q .non _
      rw [e]
      exact this
end Mi

/-! ### M34: methods with defaults -/
namespace Mi
open PySem PySem.Spec PyProof.Rows L2
section
variable {X : Cx} {F : Fm} {W : WX} {Φ Φ' H H' : Hp} {σ : L2.St} {τ τ' : List S} {tm : Env1} {a o : Expr} {es : List Expr} {mo : M S} {pos : Pos} {ms : M (List S)} {k n : Nat} {mf : Fn} {ks : List Str} {ix : List Nat} {dd : List D}
/-- a call with the positional values us and the keywords' ws, its defaults its: what is bound -/
def BindD (K : PySem.W.Frag) (fd : FuncData) (ps : List Str) (np : Nat) (ks : List Str) (ix : List Nat) (its : List Value) : Prop := ∀ (s : Shared) (v : Value) (us ws : List Value), K.In s.heap → us.length = np → ws.length = ks.length → BindsTo s fd ⟨v :: us, ks.zip ws⟩ (ps.zip (v :: pick .none ix (us ++ ws ++ its)))
structure MetD (P : Program) (w : World) (K : PySem.W.Frag) (mg : Str → Option Value) (base : Heap) (G : Gx) (k : Nat) (m : Str) (n np : Nat) (ks : List Str) (ix : List Nat) (dd : List D) (tab : Str → Option Fn) : Prop where
  ex : ∀ c mf, tab c = some mf → ∀ C, G.cls c = some C → ∃ f fd ps its dvs, Cls K C ∧ Meth K C m f ∧ FnOk P w K mg base (L2.CX P w) k f fd ps (spM G n mf) ∧ BindD K fd ps np ks ix its ∧ Vals dvs its ∧ ∀ Φ, FzL G Φ dvs dd
  pr : ∀ c mf, tab c = some mf → Proper mf
  ar : ∀ c mf, tab c = some mf → ∀ ss, mf ss ≠ .stuck → ss.length = n
theorem run_bd {CX : CXT} {f : Addr} {fd : FuncData} {ps : List Str} {sp : Sp} {pins : List (Addr × Obj)} {s : Shared} {Q : VK} {v : V} {u : Value} {us ws its : List Value} {vs zs dvs : List V} {np : Nat} (Ok : FnOk X.prog X.w X.K X.mg X.base CX k f fd ps sp) (room : Room k X.A) (bd : BindD X.K fd ps np ks ix its) (out : PassesAt CX X σ (WE W σ)) (I : Inv X pins σ H s) (rv : RelV v u) (r : Vals vs us) (rz : Vals zs ws) (rd : Vals dvs its) (l1 : vs.length = np) (l2 : zs.length = ks.length)
    (q : sp (v :: pick .non ix (vs ++ zs ++ dvs)) H Q (WE W σ)) : wpAny (model X.prog X.w) X.A (call (.ref f) (u :: us) (ks.zip ws)) (EP X pins σ Q) X.xe s := by
  refine wpAny_call (codeAny_mono (Ok.run X.A X.stack s H ⟨u :: us, ks.zip ws⟩ (u :: pick .none ix (us ++ ws ++ its)) (v :: pick .non ix (vs ++ zs ++ dvs)) Q (WE W σ) room I.env0 (bd s _ us ws I.kIn (by rw [← r.length]; exact l1) (by rw [← rz.length]; exact l2)) (.cons rv (pick_vals ((r.append rz).append rd))) q) fun r s' hq => ?_)
  cases r with
  | error e => exact out pins H s e s' I hq
  | ok fl =>
    cases fl with
    | ret u => exact I.after hq
    | next => exact False.elim hq
    | brk => exact False.elim hq
    | cont => exact False.elim hq
/-- what o.m(..) asks, t its arguments -/
def tMD (X : Cx) (W : WX) (k np : Nat) (m : Str) (ks : List Str) (ix : List Nat) (kw : Bool) (ta : L2.TE) (t : L2.TA) : L2.TE := fun σ H Q => ta σ H fun x H1 => ∃ b C dx fs f fd ps sp its dvs, x = .ref b ∧ H1 b = some (.ins C dx fs) ∧ fs.lookup m = none ∧ Cls X.K C ∧ Meth X.K C m f ∧ FnOk X.prog X.w X.K X.mg X.base (L2.CX X.prog X.w) k f fd ps sp ∧
  BindD X.K fd ps np ks ix its ∧ Vals dvs its ∧ t σ H1 fun zs H2 => (if kw = true then np = 0 ∧ zs.length = ks.length else zs.length = np ∧ ks = []) ∧ sp (x :: pick .non ix (zs ++ dvs)) H2 Q (WE W σ)
theorem pe_methD {m : Str} {pl : Sem Bool} {apos : Pos} {ta : L2.TE} {t : L2.TA} {np : Nat} (he : PE X o ta) (room : Room k X.A) (tk : Takes X W) (ha : PA X (a :: es) t)
    (hst : starEach (a :: es) X.env = (false, eval a X.env) :: starEach es X.env) (hpl : (backTo pos (starEach es X.env)).any (·.1) = false)
    (ht : eval (.Call (.Attribute o m apos) (a :: es) [] pos) X.env = (do
      let ov ← eval o X.env
      standAt apos.atName
      let (f, first) ← holding [ov] (getMethod ov m pl)
      callWith pos f first (backTo pos (starEach (a :: es) X.env)) (backToKw pos (keywordEach [] X.env)))) :
    PE X (.Call (.Attribute o m apos) (a :: es) [] pos) (tMD X W k np m ks ix false ta t) := by
  refine ⟨fun pins s σ H Q In h => ?_⟩
  refine PySem.W.methodCall_KW (pl := pl) (thn (he.run pins s σ H _ In h) fun u s1 ⟨x, H1, In1, rx, b, C, dx, fs, f, fd, ps, sp, its, dvs, ex, eb, l, c, hm, Ok, bd, rd, q⟩ => ?_) ht
  subst ex
  obtain rfl : u = Value.ref b := rx
  refine getmeth_ok In1 eb c hm l ?_
  refine PySem.W.callWith_K (first := [.ref b]) (h₀ := X.base) In.ok.mod.kin hm.kp (thn (ha.run pos pins s1 σ H1 _ In1 q) fun us s2 ⟨vs, H2, In2, r, ⟨l1, l2⟩, q2⟩ => ⟨In2.kIn, ?_⟩) hst hpl
  subst l2
  exact run_bd (v := .ref b) (ws := []) (zs := []) Ok room bd (passAt tk σ) In2 rfl r .nil rd l1 rfl (by rw [List.append_nil]; exact q2)
theorem pe_methD0 {m : Str} {pl : Sem Bool} {apos : Pos} {ta : L2.TE} (he : PE X o ta) (room : Room k X.A) (tk : Takes X W)
    (ht : eval (.Call (.Attribute o m apos) [] [] pos) X.env = (do
      let ov ← eval o X.env
      standAt apos.atName
      let (f, first) ← holding [ov] (getMethod ov m pl)
      callWith pos f first (backTo pos (starEach [] X.env)) (backToKw pos (keywordEach [] X.env)))) :
    PE X (.Call (.Attribute o m apos) [] [] pos) (tMD X W k 0 m [] ix false ta fun σ H R => R [] H) := by
  refine ⟨fun pins s σ H Q In h => ?_⟩
  refine PySem.W.methodCall_KW (pl := pl) (thn (he.run pins s σ H _ In h) fun u s1 ⟨x, H1, In1, rx, b, C, dx, fs, f, fd, ps, sp, its, dvs, ex, eb, l, c, hm, Ok, bd, rd, _, q⟩ => ?_) ht
  subst ex
  obtain rfl : u = Value.ref b := rx
  refine getmeth_ok In1 eb c hm l ?_
  refine PySem.W.callWith_K0 (first := [.ref b]) In1.kIn hm.kp ?_
  exact run_bd (v := .ref b) (us := []) (vs := []) (ws := []) (zs := []) (ks := []) Ok room bd (passAt tk σ) In1 rfl .nil .nil rd rfl rfl q
theorem pe_methDK {m : Str} {pl : Sem Bool} {apos : Pos} {ta : L2.TE} {t : L2.TA} {kws : List Keyword} (he : PE X o ta) (room : Room k X.A) (tk : Takes X W) (ha : PK X kws t) (hall : (backToKw pos (keywordEach kws X.env)).all (·.1.isSome) = true) (hks : (backToKw pos (keywordEach kws X.env)).filterMap (·.1) = ks)
    (hpl : ((backTo pos (starEach [] X.env)).any (·.1) || (backToKw pos (keywordEach kws X.env)).any (·.1.isNone)) = false)
    (ht : eval (.Call (.Attribute o m apos) [] kws pos) X.env = (do
      let ov ← eval o X.env
      standAt apos.atName
      let (f, first) ← holding [ov] (getMethod ov m pl)
      callWith pos f first (backTo pos (starEach [] X.env)) (backToKw pos (keywordEach kws X.env)))) :
    PE X (.Call (.Attribute o m apos) [] kws pos) (tMD X W k 0 m ks ix true ta t) := by
  refine ⟨fun pins s σ H Q In h => ?_⟩
  refine PySem.W.methodCall_KW (pl := pl) (thn (he.run pins s σ H _ In h) fun u s1 ⟨x, H1, In1, rx, b, C, dx, fs, f, fd, ps, sp, its, dvs, ex, eb, l, c, hm, Ok, bd, rd, q⟩ => ?_) ht
  subst ex
  obtain rfl : u = Value.ref b := rx
  refine getmeth_ok In1 eb c hm l ?_
  refine PySem.W.callWith_KW0 (first := [.ref b]) (h₀ := X.base) In.ok.mod.kin hm.kp hall ?_ hpl
  refine thn (ha.run pos pins s1 σ H1 _ In1 q) fun ws s2 ⟨zs, H2, In2, rz, ⟨_, hl⟩, q2⟩ => ⟨In2.kIn, ?_⟩
  rw [hks]
  exact run_bd (v := .ref b) (us := []) (vs := []) Ok room bd (passAt tk σ) In2 rfl .nil rz rd rfl hl q2
def onMethD (ix : List Nat) (nn : Nat) (dd : List D) (mf : Fn) (s : S) (ss : List S) : M S := M.bnd (takeAll ss) fun ds => if ds.length = nn then onMeth mf s ((pick .non ix (ds ++ dd)).map S.val) else fun _ => .stuck
def eMethD (m : Str) (ix : List Nat) (nn : Nat) (dd : List D) (tab : Str → Option Fn) (mo : M S) (ms : M (List S)) : M S := M.bnd mo fun s0 => M.bnd (norm s0) fun s => fun τ => match insAt τ s with
  | some (c, fs) => (match tab c, fs.lookup m with
    | some mf, none => (M.bnd ms fun ss => onMethD ix nn dd mf s ss) τ
    | _, _ => .stuck)
  | none => .stuck
theorem on_methD {v : V} {s : S} {vs dvs : List V} {ss : List S} {Q : VK} {nn : Nat} (pr : Proper mf) (hn : ∀ ss, mf ss ≠ .stuck → ss.length = n) (fd : ∀ Φ, FzL F.G Φ dvs dd) (l : vs.length = ss.length) (r : Rl F Φ H σ τ ((vs.map some).zip ss ++ ((some v, s) :: tm))) (h : Wp F W tm (onMethD ix nn dd mf s ss τ) fun s τ' => ∀ v H' Φ', Rl F Φ' H' σ τ' ((some v, s) :: tm) → Q v H') : vs.length = nn ∧ spM F.G n mf (v :: pick .non ix (vs ++ dvs)) H Q (WE W σ) := by
  obtain ⟨ds, τ2, e, p2⟩ := takeAll_cases (Wp.bnd h)
  obtain ⟨Φ2, r2, q⟩ := Rl.takenAll l r e
  split at p2
  · rename_i hz
    have q2 := q.append (fd Φ2)
    refine ⟨by rw [q.length]; exact hz, on_meth (Φ := Φ2) pr hn ?_ ?_ p2⟩
    · rw [List.length_map, (pick_fz (ix := ix) q2).length]
    · exact r2.vals (pick_fz q2)
  · exact p2.elim
theorem t_methD {m : Str} {tab : Str → Option Fn} {Q : VK} {np : Nat} {kw : Bool} {nn : Nat} (mk : MetD X.prog X.w X.K X.mg X.base F.G k m n np ks ix dd tab) (hn : ∀ z : Nat, z = nn → (if kw = true then np = 0 ∧ z = ks.length else z = np ∧ ks = [])) (h : TEm F W (eMethD m ix nn dd tab mo ms) σ H Q) : tMD X W k np m ks ix kw (TEm F W mo) (TLm F W ms) σ H Q := by
  obtain ⟨Φ, τ, tm, rl, h⟩ := h
  refine te_go rl h.bnd fun s0 τ1 v H1 Φ1 p1 r1 => ?_
  obtain ⟨s, τ2, Φ2, r2, p2⟩ := norm_cases r1 (Wp.bnd p1)
  cases e : insAt τ2 s with
  | none => simp only [e] at p2; exact p2.elim
  | some cf =>
    obtain ⟨c, fs⟩ := cf
    simp only [e] at p2
    obtain ⟨b, C, dx, vs, rfl, hb, g, ff⟩ := insAt_ok r2 r2.hd e
    cases e1 : tab c with
    | none => simp only [e1] at p2; exact p2.elim
    | some mf =>
      cases e2 : fs.lookup m with
      | some _ => simp only [e1, e2] at p2; exact p2.elim
      | none =>
        simp only [e1, e2] at p2
        obtain ⟨f, fd, ps, its, dvs, c1, c2, Ok, bd, rd, fz⟩ := mk.ex c mf e1 C g
        exact ⟨b, C, dx, vs, f, fd, ps, _, its, dvs, rfl, hb, FzF.look0 ff e2, c1, c2, Ok, bd, rd, tl_go r2 (Wp.bnd p2) fun ss τ3 vs' H3 Φ3 p3 l r3 => by
          obtain ⟨q1, q2⟩ := on_methD (mk.pr c mf e1) (mk.ar c mf e1) fz l r3 p3
          exact ⟨hn _ q1, q2⟩⟩
theorem em_methD {m : Str} {tab : Str → Option Fn} {pl : Sem Bool} {apos : Pos} {np : Nat} (ft : Fits X F W) (hr : Room k X.A) (mk : MetD X.prog X.w X.K X.mg X.base F.G k m n np [] ix dd tab) (he : EM X F W o mo) (ha : LM X F W (a :: es) ms)
    (hst : starEach (a :: es) X.env = (false, eval a X.env) :: starEach es X.env := by rfl) (hpl : (backTo pos (starEach es X.env)).any (·.1) = false := by rfl)
    (ht : eval (.Call (.Attribute o m apos) (a :: es) [] pos) X.env = (do
      let ov ← eval o X.env
      standAt apos.atName
      let (f, first) ← holding [ov] (getMethod ov m pl)
      callWith pos f first (backTo pos (starEach (a :: es) X.env)) (backToKw pos (keywordEach [] X.env))) := by rfl) :
    EM X F W (.Call (.Attribute o m apos) (a :: es) [] pos) (eMethD m ix np dd tab mo ms) := PE.imp (pe_methD he hr ft.tk ha hst hpl ht) fun σ H Q h => t_methD mk (fun z hz => by simpa using hz) h
theorem em_methD0 {m : Str} {tab : Str → Option Fn} {pl : Sem Bool} {apos : Pos} (ft : Fits X F W) (hr : Room k X.A) (mk : MetD X.prog X.w X.K X.mg X.base F.G k m n 0 [] ix dd tab) (he : EM X F W o mo)
    (ht : eval (.Call (.Attribute o m apos) [] [] pos) X.env = (do
      let ov ← eval o X.env
      standAt apos.atName
      let (f, first) ← holding [ov] (getMethod ov m pl)
      callWith pos f first (backTo pos (starEach [] X.env)) (backToKw pos (keywordEach [] X.env))) := by rfl) :
    EM X F W (.Call (.Attribute o m apos) [] [] pos) (eMethD m ix 0 dd tab mo lNil) := PE.imp (pe_methD0 he hr ft.tk ht) fun σ H Q h => by
  refine te_mono (t_methD (kw := false) mk (fun z hz => by simpa using hz) h) fun x H1 ⟨b, C, dx, fs, f, fd, ps, sp, its, dvs, h1, h2, h3, h4, h5, h6, h7, h8, h9⟩ => ⟨b, C, dx, fs, f, fd, ps, sp, its, dvs, h1, h2, h3, h4, h5, h6, h7, h8, ?_⟩
  obtain ⟨Φ, τ, tm, r, q⟩ := h9
  exact q [] H1 Φ rfl r
theorem em_methDK {m : Str} {tab : Str → Option Fn} {pl : Sem Bool} {apos : Pos} {kws : List Keyword} (ft : Fits X F W) (hr : Room k X.A) (mk : MetD X.prog X.w X.K X.mg X.base F.G k m n 0 ks ix dd tab) (he : EM X F W o mo) (ha : KM X F W kws ms) (hall : (backToKw pos (keywordEach kws X.env)).all (·.1.isSome) = true := by rfl) (hks : (backToKw pos (keywordEach kws X.env)).filterMap (·.1) = ks := by rfl)
    (hpl : ((backTo pos (starEach [] X.env)).any (·.1) || (backToKw pos (keywordEach kws X.env)).any (·.1.isNone)) = false := by rfl)
    (ht : eval (.Call (.Attribute o m apos) [] kws pos) X.env = (do
      let ov ← eval o X.env
      standAt apos.atName
      let (f, first) ← holding [ov] (getMethod ov m pl)
      callWith pos f first (backTo pos (starEach [] X.env)) (backToKw pos (keywordEach kws X.env))) := by rfl) :
    EM X F W (.Call (.Attribute o m apos) [] kws pos) (eMethD m ix ks.length dd tab mo ms) := PE.imp (pe_methDK he hr ft.tk ha hall hks hpl ht) fun σ H Q h => t_methD (kw := true) mk (fun z hz => by simpa using hz) h
end
section
variable {fa : List He.Fa} {fn : List He.DefD} {tq : List Tq} {exs : PySem.W.Frag → List Bool} {P : Program} {w : World} {K : PySem.W.Frag} {mg : Str → Option Value} {base : Heap} {k n np : Nat} {mf : Fn} {c f m qual : Str} {ps ks : List Str} {ix : List Nat} {fd : FuncData} {params : Arguments} {bdy : List Stmt} {scope : Scope} {dvs : List V} {dd : List D} {fA : Addr}
def Met1D (P : Program) (w : World) (K : PySem.W.Frag) (mg : Str → Option Value) (base : Heap) (G : Gx) (k : Nat) (m : Str) (n np : Nat) (ks : List Str) (ix : List Nat) (dd : List D) (c : Str) (mf : Fn) : Prop :=
  (∀ C, G.cls c = some C → ∃ f fd ps its dvs, Cls K C ∧ Meth K C m f ∧ FnOk P w K mg base (L2.CX P w) k f fd ps (spM G n mf) ∧ BindD K fd ps np ks ix its ∧ Vals dvs its ∧ ∀ Φ, FzL G Φ dvs dd) ∧ Proper mf ∧ ∀ ss, mf ss ≠ .stuck → ss.length = n
/-- no defaults -/
theorem bindD0 (Fu : FunD K m qual params bdy scope [] [] fA fd) (hb : ∀ (kV doc pm : Value) (an : Option Addr) (cdv ct v : Value) (us ws : List Value), us.length = np → ws.length = ks.length → bindArgs (PySem.W.fnOf m qual params bdy scope .none kV doc pm an cdv ct) ⟨v :: us, ks.zip ws⟩ = pure (ps.zip (v :: pick .none ix (us ++ ws)))) : BindD K fd ps np ks ix [] := fun s v us ws _ h1 h2 => by
  obtain ⟨oc, od, dV, kV, doc, pm, an, cdv, ct, osl, rfl, lk, hcd, hD, hK⟩ := Fu.ex
  rcases hD with ⟨_, rfl⟩ | ⟨e, _⟩
  · rw [List.append_nil]
    exact .of_eq (hb kV doc pm an cdv ct v us ws h1 h2)
  · exact absurd rfl e
/-- defaults -/
theorem bindD1 (Fu : FunD K m qual params bdy scope dvs [] fA fd) (hd : dvs ≠ []) (hb : ∀ (T : Addr) (kV doc pm : Value) (an : Option Addr) (cdv ct v : Value) (us ws its : List Value), us.length = np → ws.length = ks.length → its.length = dvs.length →
    ∃ k, bindArgs (PySem.W.fnOf m qual params bdy scope (.ref T) kV doc pm an cdv ct) ⟨v :: us, ks.zip ws⟩ = seqItems? (.ref T) >>= k ∧ k (some its.toArray) = pure (ps.zip (v :: pick .none ix (us ++ ws ++ its)))) : ∃ its, Vals dvs its ∧ BindD K fd ps np ks ix its := by
  obtain ⟨oc, od, dV, kV, doc, pm, an, cdv, ct, osl, rfl, lk, hcd, hD, hK⟩ := Fu.ex
  rcases hD with ⟨e, _⟩ | ⟨_, T, o, its, mm, rfl, lT, oT, rT⟩
  · exact absurd e hd
  · refine ⟨its, rT, fun s v us ws X h1 h2 => ?_⟩
    obtain ⟨k, e1, e2⟩ := hb T kV doc pm an cdv ct v us ws its h1 h2 rT.length.symm
    refine BindsTo.of_looks fun M => ?_
    rw [e1]
    exact looks_items X lT oT (.of_pure e2)
theorem met1D (hd : HdOk fa fn tq exs K mg base) (h : metB c m K = true) (ok : FnOk P w K mg base (L2.CX P w) k (He.fAd K (c, some m)) fd ps (spM (gxOf tq K mg) n mf)) (b : ∃ its, Vals dvs its ∧ BindD K fd ps np ks ix its) (fz : ∀ Φ, FzL (gxOf tq K mg) Φ dvs dd) (pr : Proper mf) (ar : ∀ ss, mf ss ≠ .stuck → ss.length = n) : Met1D P w K mg base (gxOf tq K mg) k m n np ks ix dd c mf := by
  obtain ⟨h1, h2⟩ := He.ba h
  obtain ⟨h2, h3⟩ := He.ba h2
  refine ⟨fun C g => ?_, pr, ar⟩
  rw [hd.gat h1 g]
  obtain ⟨its, rT, bd⟩ := b
  exact ⟨_, fd, ps, its, dvs, He.cls_ok h2, He.meth_ok h3, ok, bd, rT, fz⟩
theorem Met1D.up {j : Nat} {G : Gx} (h : Met1D P w K mg base G j m n np ks ix dd c mf) (le : j ≤ k) : Met1D P w K mg base G k m n np ks ix dd c mf := ⟨fun C g => by
  obtain ⟨f, fd, ps, its, dvs, a, b, o, d⟩ := h.1 C g
  exact ⟨f, fd, ps, its, dvs, a, b, o.mono le, d⟩, h.2⟩
theorem metOkD {G : Gx} {l : List (Str × Fn)} (h : ∀ e ∈ l, Met1D P w K mg base G k m n np ks ix dd e.1 e.2) : MetD P w K mg base G k m n np ks ix dd fun x => l.lookup x :=
  ⟨fun c mf e C g => (h _ (PySem.mem_of_lookup e)).1 C g, fun c mf e => (h _ (PySem.mem_of_lookup e)).2.1, fun c mf e => (h _ (PySem.mem_of_lookup e)).2.2⟩
/-- the own body's rule for a def with defaults -/
theorem fnDd {G : Gx} {qual x : Str} {kws : List (Str × V)} {N : List Str} {m : M Fl} (hK : G.K = K) (Fu : FunD K x qual params bdy scope dvs kws fA fd) (Sc : FnScope N ps scope)
    (body : ∀ (cdv : Value) (A : Around) (outer : List Env) (s : Shared) (H : Hp) (E : XK) (F : Fm), fd.code = cdv → F.G = G → Room k (A.deeper (envOfC qual scope s.heap.objs.size fA cdv)) →
      Fits (cxOf (L2.CX P w) P w K mg base N qual scope fA cdv A outer s H E) F (fun cls d _ H => E cls d H) → BlM (cxOf (L2.CX P w) P w K mg base N qual scope fA cdv A outer s H E) F (fun cls d _ H => E cls d H) bdy m) :
    FnOk P w K mg base (L2.CX P w) (k + 1) fA fd ps (spM G ps.length (runFn ps.length N.length m)) := fnD hK Fu Sc body
end
end Mi

/-! ### N1: plain laws of mirrors, of any law -/
namespace Mi
open PySem PySem.Spec PyProof.Rows L2
/-! #### steps -/
theorem lam_ap (cap : List Nat) (ml : M S) (g : Th → R S) (τ : List S) : eLam cap ml g τ = (M.bnd (takeAll (cap.map .ali)) fun _ => fun τ => match g (thk ml τ) with
  | .ok s => .ok (s, τ)
  | .exc c fs _ => .exc c fs τ
  | .stuck => .stuck) τ := rfl
theorem append_ap (mo : M S) (ms : M (List S)) (τ : List S) : eAppend mo ms τ = (M.bnd mo fun s => M.bnd (isL s) fun _ => M.bnd ms fun ss => match s, ss with
  | .ali k, [t] => M.bnd (take t) fun d => M.bnd (onL k (app1 d)) fun _ => M.ret (.val .non)
  | _, _ => fun _ => .stuck) τ := rfl
theorem app_of {d : D} {xs : List D} (h : xs.length ≤ 1000) : app1 d xs = some (xs ++ [d]) := by
  unfold app1
  rw [if_pos]
  rw [sizeLine_eq]; omega
theorem make_ap (c : Str) (mf : Fn) (ms : M (List S)) (τ : List S) : eMake c mf ms τ = (M.bnd ms fun ss => M.bnd (takeAll ss) fun ds => fun τ => match mf (.lent 0 (.ins c []) :: ds.map S.val) with
  | .ok (.val .non, .lent _ o :: _) => .ok (.own o, τ)
  | .exc cc fs _ => .exc cc fs τ
  | _ => .stuck) τ := rfl
theorem setF_ap (f : Str) (cs : List Str) (mv mo : M S) (τ : List S) : sSetF f cs mv mo τ = (M.bnd mv fun s => M.bnd (take s) fun d => M.bnd mo fun so => match so with
  | .ali k => M.bnd (onI k f cs d) fun _ => M.ret .nx
  | _ => fun _ => .stuck) τ := rfl
theorem own_ap (neg : Bool) (tab : Str → Option Fn) (okT : Str → Tg → Bool) (ma mb : M S) (τ : List S) : eOwn neg tab okT ma mb τ = (M.bnd ma fun s1 => M.bnd mb fun s2 => M.bnd (take s2) fun d2 => M.bnd (take s1) fun d1 => fun τ => match d1 with
  | .ins c fs => (match tab c, tagOf d2 with
    | some mf, some t => if okT c t = true then (match mf ([.ins c fs, d2].map S.val) with
      | .ok (.val (.bl q), _) => .ok (.val (.bl (neg ^^ q)), τ)
      | .exc cc gs _ => .exc cc gs τ
      | _ => .stuck) else .stuck
    | _, _ => .stuck)
  | _ => .stuck) τ := rfl
theorem meth_ap (m : Str) (tab : Str → Option Fn) (mo : M S) (ms : M (List S)) (τ : List S) : eMeth m tab mo ms τ = (M.bnd mo fun s0 => M.bnd (norm s0) fun s => fun τ => match insAt τ s with
  | some (c, fs) => (match tab c, fs.lookup m with
    | some mf, none => (M.bnd ms fun ss => onMeth mf s ss) τ
    | _, _ => .stuck)
  | none => .stuck) τ := rfl
theorem methD_ap (m : Str) (ix : List Nat) (nn : Nat) (dd : List D) (tab : Str → Option Fn) (mo : M S) (ms : M (List S)) (τ : List S) : eMethD m ix nn dd tab mo ms τ = (M.bnd mo fun s0 => M.bnd (norm s0) fun s => fun τ => match insAt τ s with
  | some (c, fs) => (match tab c, fs.lookup m with
    | some mf, none => (M.bnd ms fun ss => onMethD ix nn dd mf s ss) τ
    | _, _ => .stuck)
  | none => .stuck) τ := rfl
theorem norm_val (d : D) (τ : List S) : norm (.val d) τ = .ok (.val d, τ) := rfl
theorem norm_own (o : O) (τ : List S) : norm (.own o) τ = .ok (.val o.frz, τ) := rfl
theorem norm_ali (i : Nat) (τ : List S) : norm (.ali i) τ = .ok (.ali i, τ) := rfl
theorem onMethD_ap (ix : List Nat) (nn : Nat) (dd : List D) (mf : Fn) (s : S) (ss : List S) (τ : List S) : onMethD ix nn dd mf s ss τ = (M.bnd (takeAll ss) fun ds => if ds.length = nn then onMeth mf s ((pick .non ix (ds ++ dd)).map S.val) else fun _ => .stuck) τ := rfl
theorem onMeth_val (mf : Fn) (d : D) (ss : List S) (τ : List S) : onMeth mf (.val d) ss τ = (M.bnd (takeAll ss) fun ds => fun τ => match mf ((d :: ds).map S.val) with
    | .ok (r, _) => .ok (r, τ)
    | .exc c fs _ => .exc c fs τ
    | .stuck => .stuck) τ := rfl
theorem onMeth_ali (mf : Fn) (k : Nat) (ss : List S) (τ : List S) : onMeth mf (.ali k) ss τ = (M.bnd (takeAll ss) fun ds => fun τ => match τ[k]? with
    | some (.own o) => lendTo mf k o .own ds τ
    | some (.lent j o) => lendTo mf k o (.lent j) ds τ
    | _ => .stuck) τ := rfl
theorem lz_ap (ms : M (List S)) (τ : List S) : eListZip ms τ = (M.bnd ms fun ss => M.bnd (takeAll ss) fun ds => M.of (zipTT ds)) τ := rfl
theorem chain_ap (f g : D → D → Option S) (ma mb mc : M S) (τ : List S) : eChain f g ma mb mc τ = eChain f g ma mb mc τ := rfl
theorem thunk_raw (d : D) (τ : List S) : eThunk (.ok d) (.raw :: τ) = .ok (.val d, .raw :: τ) := rfl
theorem thunk_exc (c : Str) (fs : List (Str × D)) (τ : List S) : eThunk (.exc c fs) (.raw :: τ) = .exc c fs (.raw :: τ) := rfl
theorem thk_exc {ml : M S} {τ τ' : List S} {c : Str} {fs : List (Str × D)} (h : ml (only τ) = .exc c fs τ') : thk ml τ = .exc c fs := by
  unfold thk M.bnd
  rw [h]
theorem thk_val {ml : M S} {τ τ' : List S} {d : D} (h : ml (only τ) = .ok (.val d, τ')) : thk ml τ = .ok d := by
  unfold thk M.bnd
  rw [h]
  rfl
theorem thk_own {ml : M S} {τ τ' : List S} {o : O} (h : ml (only τ) = .ok (.own o, τ')) : thk ml τ = .ok o.frz := by
  unfold thk M.bnd
  rw [h]
  rfl
theorem iseq_val (d : D) {ma : M S} {τ τ1 : List S} {xs : List D} (h : ma τ = .ok (.val d, τ1)) (hi : items d = some xs) : iSeq ma τ = .ok ((xs, noPin), τ1) := by
  simp only [iSeq, bnd_ap, h, take_val, of_ap, hi, M.ret]
theorem iseq_own (o : O) {ma : M S} {τ τ1 : List S} {xs : List D} (h : ma τ = .ok (.own o, τ1)) (hi : items o.frz = some xs) : iSeq ma τ = .ok ((xs, noPin), τ1) := by
  simp only [iSeq, bnd_ap, h, take_own, of_ap, hi, M.ret]
theorem iseq_ali (o : O) {i : Nat} {ma : M S} {τ τ1 : List S} {xs : List D} (h : ma τ = .ok (.ali i, τ1)) (ho : τ1[i]? = some (.own o)) (hi : items o.frz = some xs) : iSeq ma τ = .ok ((xs, noPin), τ1.set i (.val o.frz)) := by
  simp only [iSeq, bnd_ap, h, ho, take_ali, of_ap, hi, M.ret]
theorem iseq_vali (d : D) {i : Nat} {ma : M S} {τ τ1 : List S} {xs : List D} (h : ma τ = .ok (.ali i, τ1)) (ho : τ1[i]? = some (.val d)) (hi : items d = some xs) : iSeq ma τ = .ok ((xs, noPin), τ1) := by
  simp only [iSeq, bnd_ap, h, ho, take_ali, of_ap, hi, M.ret]
/-- a comprehension that reads only -/
theorem ecomp_map {α : Type} {own : List Nat} {mi : M (List D × Pin)} {g : MG} {me : M S} (xs : List α) (f h : α → D) {τ τ1 τ0 : List S} (hi : mi τ = .ok ((xs.map f, noPin), τ1)) (hp : own.all (fun i => plainS (τ1.getD i .non)) = true) (hw : wipeT own τ1 = τ0)
    (each : ∀ x ∈ xs, ∃ τ2 τ3, g (.val (f x)) τ0 = .ok ((), τ2) ∧ M.bnd me take τ2 = .ok (h x, τ3) ∧ wipeT own τ3 = τ0) (hl : xs.length ≤ 1000) (hr : realOk τ0 τ0 = true) : eComp own mi g bYes me τ = .ok (.own (.lst (xs.map h)), restT own τ1 τ0) := by
  rw [ecomp_ap _ _ _ _ _ _ hi hp, hw]
  have go : ∀ (ys : List α) (acc : List D), (∀ x ∈ ys, x ∈ xs) → acc.length + ys.length ≤ 1000 → compM own noPin g bYes me (ys.map f) acc τ0 = .ok (acc ++ ys.map h, τ0) := by
    intro ys
    induction ys with
    | nil => intro acc _ _; rw [List.map_nil, comp_nil, List.map_nil, List.append_nil]
    | cons y ys ih =>
      intro acc hm hl
      obtain ⟨τ2, τ3, e1, e2, e3⟩ := each y (hm y List.mem_cons_self)
      have hf : fitL (acc.length + 1) = some () := by
        unfold fitL
        rw [if_pos]
        rw [List.length_cons] at hl
        rw [sizeLine_eq]
        omega
      rw [List.map_cons, comp_cons]
      obtain ⟨s, τ4, e4, e5⟩ := bnd_ok e2
      simp only [e1, byes_ap, bnd_ap, e4, e5, of_ap, hf, M.ret, e3]
      rw [ih (acc ++ [h y]) (fun x hx => hm x (List.mem_cons_of_mem _ hx)) (by rw [List.length_append, List.length_cons, List.length_nil]; rw [List.length_cons] at hl; omega)]
      rw [List.map_cons, List.append_assoc]
      rfl
  rw [go xs [] (fun _ h => h) (by simpa using hl)]
  simp only [hr, if_true, List.nil_append]
/-! #### plain data -/
/-- data without instances, of few depth -/
inductive PlN : Nat → D → Prop
  | non {n : Nat} : PlN n .non
  | bl {n : Nat} (b : Bool) : PlN n (.bl b)
  | int {n : Nat} (i : Int) : PlN n (.int i)
  | str {n : Nat} (x : Str) (h : SeqAt.shaped (.str x) = true) : PlN n (.str x)
  | lst {n : Nat} {xs : List D} : (∀ x ∈ xs, PlN n x) → PlN (n + 1) (.lst xs)
  | tup {n : Nat} {xs : List D} : (∀ x ∈ xs, PlN n x) → PlN (n + 1) (.tup xs)
def ShP (n : Nat) (p : PyData) : Prop := PyData.canLay0 p = true ∧ PyData.depth p ≤ n
theorem pys_all {n : Nat} : ∀ {xs : List D}, (∀ x ∈ xs, ∃ p, x.py = some p ∧ ShP n p ∧ PyData.eqv p p = true) → ∃ ps, D.pys xs = some ps ∧ PyData.canLayAll0 ps = true ∧ PyData.depthAll ps ≤ n ∧ PyData.eqvAll ps ps = true
  | [], _ => ⟨[], rfl, rfl, Nat.zero_le _, rfl⟩
  | x :: xs, h => by
    obtain ⟨p, e, ⟨a, b⟩, c⟩ := h x List.mem_cons_self
    obtain ⟨ps, e2, a2, b2, c2⟩ := pys_all (xs := xs) fun y hy => h y (List.mem_cons_of_mem _ hy)
    refine ⟨p :: ps, by simp only [D.pys, e, e2], ?_, ?_, ?_⟩
    · simp only [PyData.canLayAll0, a, a2, Bool.and_self]
    · simp only [PyData.depthAll]; omega
    · simp only [PyData.eqvAll, c, c2, Bool.and_self]
theorem PlN.py : ∀ {n : Nat} {d : D}, PlN n d → ∃ p, d.py = some p ∧ ShP n p ∧ PyData.eqv p p = true := by
  intro n d h
  induction h with
  | non => exact ⟨_, rfl, ⟨rfl, Nat.zero_le _⟩, rfl⟩
  | bl b => exact ⟨_, rfl, ⟨rfl, Nat.zero_le _⟩, by cases b <;> rfl⟩
  | int i => exact ⟨_, rfl, ⟨rfl, Nat.zero_le _⟩, by simp [PyData.eqv]⟩
  | str x h =>
    refine ⟨_, rfl, ⟨SeqAt.canLay_of_shaped h, Nat.zero_le _⟩, by simp [PyData.eqv]⟩
  | lst _ ih =>
    obtain ⟨ps, e, a, b, c⟩ := pys_all ih
    refine ⟨.list ps, by simp only [D.py, e, Option.map_some], ⟨by simp only [PyData.canLay0, a], by simp only [PyData.depth]; omega⟩, by simp [PyData.eqv, c]⟩
  | tup _ ih =>
    obtain ⟨ps, e, a, b, c⟩ := pys_all ih
    refine ⟨.tuple ps, by simp only [D.py, e, Option.map_some], ⟨by simp only [PyData.canLay0, a], by simp only [PyData.depth]; omega⟩, by simp [PyData.eqv, c]⟩
theorem eq_self {n : Nat} {d : D} (h : PlN n d) (hn : n ≤ 64) : eqD d d = some true := by
  obtain ⟨p, e, ⟨a, b⟩, c⟩ := h.py
  have sh : SeqAt.shaped p = true := by
    unfold SeqAt.shaped
    rw [a, decide_eq_true (by omega)]
    rfl
  unfold eqD
  simp only [e, sh, and_self, if_true, c]
theorem fEq_self {n : Nat} {d : D} (h : PlN n d) (hn : n ≤ 64) : fEq d d = some (.val (.bl true)) := by
  simp only [fEq, eq_self h hn, Option.map_some]
theorem fNe_self {n : Nat} {d : D} (h : PlN n d) (hn : n ≤ 64) : fNe d d = some (.val (.bl false)) := by
  simp only [fNe, eq_self h hn, Option.map_some, Bool.not_true]
theorem eq_ints (i j : Int) : eqD (.int i) (.int j) = some (decide (i = j)) := by
  unfold eqD
  have s : ∀ i : Int, SeqAt.shaped (.int i) = true := fun i => rfl
  simp only [D.py, s, and_self, if_true]
  by_cases h : i = j
  · subst h; simp [PyData.eqv]
  · simp [PyData.eqv, h]
theorem fEq_int (i j : Int) : fEq (.int i) (.int j) = some (.val (.bl (decide (i = j)))) := by
  simp only [fEq, eq_ints, Option.map_some]
theorem fNe_int (i j : Int) : fNe (.int i) (.int j) = some (.val (.bl (!decide (i = j)))) := by
  simp only [fNe, eq_ints, Option.map_some]
/-- a list beside the empty one -/
theorem eq_nil {n : Nat} {xs : List D} (h : ∀ x ∈ xs, PlN n x) (hn : n < 64) : eqD (.lst xs) (.lst []) = some xs.isEmpty := by
  obtain ⟨ps, e, a, b, c⟩ := pys_all fun x hx => (h x hx).py
  have s1 : SeqAt.shaped (.list ps) = true := by
    have d1 : (PyData.list ps).depth ≤ 64 := by simp only [PyData.depth]; omega
    unfold SeqAt.shaped
    rw [decide_eq_true d1]
    simp only [PyData.canLay0, a, Bool.and_self]
  have s0 : SeqAt.shaped (.list []) = true := by decide
  unfold eqD
  simp only [D.py, e, Option.map_some, D.pys, s1, s0, and_self, if_true]
  cases xs with
  | nil =>
    cases e
    rfl
  | cons x xs =>
    cases ps with
    | nil =>
      exfalso
      simp only [D.pys] at e
      split at e <;> cases e
    | cons p ps => simp [PyData.eqv, PyData.eqvAll]
theorem fNe_nil {n : Nat} {xs : List D} (h : ∀ x ∈ xs, PlN n x) (hn : n < 64) : fNe (.lst xs) (.lst []) = some (.val (.bl (!xs.isEmpty))) := by
  simp only [fNe, eq_nil h hn, Option.map_some]
theorem fEq_nil {n : Nat} {xs : List D} (h : ∀ x ∈ xs, PlN n x) (hn : n < 64) : fEq (.lst xs) (.lst []) = some (.val (.bl xs.isEmpty)) := by
  simp only [fEq, eq_nil h hn, Option.map_some]
/-! #### ints -/
theorem log_lt {i : Int} {n : Nat} (hn : 0 < n) (h : i.natAbs < 2 ^ n) : i.natAbs.log2 < n := by
  by_cases hz : i.natAbs = 0
  · rw [hz]; exact hn
  · exact (Nat.log2_lt hz).mpr h
/-- whole numbers of a thousand bits -/
def Sm (i : Int) : Prop := i.natAbs < 2 ^ 1000
theorem mul_ok {i j : Int} (h1 : Sm i) (h2 : Sm j) : fMul (.int i) (.int j) = some (.val (.int (i * j))) := by
  have : mulFits i j = true := by
    unfold mulFits
    rw [Bool.or_eq_true]
    left
    have a := log_lt (by decide) h1
    have b := log_lt (by decide) h2
    exact decide_eq_true (by omega)
  simp only [fMul, this, if_true, sInt]
theorem sm_of {i : Int} (h : i.natAbs < 2 ^ 64) : Sm i := Nat.lt_of_lt_of_le h (Nat.pow_le_pow_right (by decide) (by decide))
theorem sm_le {i : Int} {k : Nat} (h : i.natAbs < 2 ^ k) (hk : k ≤ 1000) : Sm i := Nat.lt_of_lt_of_le h (Nat.pow_le_pow_right (by decide) hk)
theorem ab_mul {a b : Int} {p q : Nat} (h1 : a.natAbs < 2 ^ p) (h2 : b.natAbs < 2 ^ q) : (a * b).natAbs < 2 ^ (p + q) := by
  rw [Int.natAbs_mul, Nat.pow_add]
  exact Nat.mul_lt_mul'' h1 h2
theorem ab_add {a b : Int} {p : Nat} (h1 : a.natAbs < 2 ^ p) (h2 : b.natAbs < 2 ^ p) : (a + b).natAbs < 2 ^ (p + 1) := by
  rw [Nat.pow_succ]
  omega
theorem ab_sub {a b : Int} {p : Nat} (h1 : a.natAbs < 2 ^ p) (h2 : b.natAbs < 2 ^ p) : (a - b).natAbs < 2 ^ (p + 1) := by
  rw [Nat.pow_succ]
  omega
theorem mul_l {i j : Int} (h : i.natAbs < 2 ^ 60) : fMul (.int i) (.int j) = some (.val (.int (i * j))) := by
  have : mulFits i j = true := by
    unfold mulFits
    rw [Bool.or_eq_true]
    right
    rw [Bool.and_eq_true]
    exact ⟨decide_eq_true (by omega), decide_eq_true (by omega)⟩
  simp only [fMul, this, if_true, sInt]
theorem pow_ok {i j : Int} (h : i.natAbs < 2 ^ 64) (h0 : 0 ≤ j) (h1 : j ≤ 100) : fPow (.int i) (.int j) = some (.val (.int (i ^ j.toNat))) := by
  have b : Builtin.Int.intBits i ≤ 64 := by
    unfold Builtin.Int.intBits
    split
    · omega
    · rename_i hz
      have : i.natAbs.log2 < 64 := (Nat.log2_lt (by simpa using hz)).mpr h
      omega
  have : powFits i j = true := by
    unfold powFits
    have h2 : (Builtin.Int.intBits i : Int) * j ≤ 64 * 100 := Int.mul_le_mul (by omega) h1 h0 (by omega)
    rw [decide_eq_true h0, decide_eq_true (by omega : (Builtin.Int.intBits i : Int) * j ≤ 2 ^ 27)]
    rfl
  simp only [fPow, this, if_true, sInt]
theorem set2 (a b c d : D) : setD (.int 2) d [a, b, c] = some [a, b, d] := rfl
theorem set1 (a b c d : D) : setD (.int 1) d [a, b, c] = some [a, d, c] := rfl
theorem ix_ints {cells : List Int} {k : Int} (h0 : 0 ≤ k) (h1 : k < cells.length) : ∃ c : Int, atI (cells.map D.int) k = some (.int c) := by
  obtain ⟨j, rfl⟩ := Int.eq_ofNat_of_zero_le h0
  have hj : j < cells.length := by omega
  refine ⟨cells[j], ?_⟩
  have hl : ((j : Nat) : Int) < ((cells.map D.int).length : Int) := by rw [List.length_map]; omega
  simp only [atI, ixN, hl, if_true, Int.toNat_natCast, Option.bind_some, List.getElem?_map]
  rw [if_pos (by omega)]
  simp only [Option.bind_some, Int.toNat_natCast, List.getElem?_map, List.getElem?_eq_getElem hj, Option.map_some]
theorem atI_mem {α : Type} {xs : List α} {v : Int} (h0 : 0 ≤ v) (h1 : v < xs.length) : ∃ x, atI xs v = some x ∧ x ∈ xs := by
  obtain ⟨j, rfl⟩ := Int.eq_ofNat_of_zero_le h0
  have hj : j < xs.length := by omega
  refine ⟨xs[j], ?_, List.getElem_mem hj⟩
  simp only [atI, ixN]
  rw [if_pos (by omega), if_pos h1]
  simp only [Int.toNat_natCast, Option.bind_some, List.getElem?_eq_getElem hj]
theorem pl_ints {n : Nat} {l : List Int} : ∀ x ∈ l.map D.int, PlN n x := fun x hx => by
  obtain ⟨i, _, rfl⟩ := List.mem_map.mp hx
  exact .int i
theorem fit_of {n : Nat} (h : n ≤ 1000) : fitL n = some () := by
  unfold fitL
  rw [if_pos]
  rw [sizeLine_eq]; omega
theorem atI_0 {α : Type} (a : α) (l : List α) : atI (a :: l) 0 = some a := by simp [atI, ixN]
theorem atI_1 {α : Type} (a b : α) (l : List α) : atI (a :: b :: l) 1 = some b := by
  have h : (1 : Int) < ((a :: b :: l).length : Int) := by simp only [List.length_cons]; omega
  simp only [atI, ixN, h, if_true]
  rfl
theorem atI_2 {α : Type} (a b c : α) (l : List α) : atI (a :: b :: c :: l) 2 = some c := by
  have h : (2 : Int) < ((a :: b :: c :: l).length : Int) := by simp only [List.length_cons]; omega
  simp only [atI, ixN, h, if_true]
  rfl
theorem eq_int (i j : Int) : fEq (.int i) (.int j) = some (.val (.bl (i == j))) := by
  simp [fEq, eqD, D.py, SeqAt.shaped, PyData.canLay0, PyData.depth, PyData.eqv]
theorem ne_int (i j : Int) : fNe (.int i) (.int j) = some (.val (.bl (!(i == j)))) := by
  simp [fNe, eqD, D.py, SeqAt.shaped, PyData.canLay0, PyData.depth, PyData.eqv]
theorem ne_pair (a b c d : Int) : fNe (.tup [.int a, .int b]) (.tup [.int c, .int d]) = some (.val (.bl (!((a == c) && (b == d))))) := by
  simp [fNe, eqD, D.py, D.pys, SeqAt.shaped, PyData.canLay0, PyData.depth, PyData.canLayAll0, PyData.depthAll, PyData.eqv, PyData.eqvAll]
theorem eq_pair (a b c d : Int) : fEq (.tup [.int a, .int b]) (.tup [.int c, .int d]) = some (.val (.bl ((a == c) && (b == d)))) := by
  simp [fEq, eqD, D.py, D.pys, SeqAt.shaped, PyData.canLay0, PyData.depth, PyData.canLayAll0, PyData.depthAll, PyData.eqv, PyData.eqvAll]
theorem mod_ok {i j : Int} (h : 0 < j) : fMod (.int i) (.int j) = some (.val (.int (i % j))) := by
  simp only [fMod, h, if_true, sInt]
theorem abs_eq (i : Int) : (if i < 0 then -i else i) = (i.natAbs : Int) := by
  split <;> omega
theorem div_ok {i j : Int} (h : j ≠ 0) (h2 : j.natAbs < 2 ^ 1000) : fDiv (.int i) (.int j) = some (.val (.int (i.fdiv j))) := by
  have lg : j.natAbs.log2 < 9000 := by
    have := (Nat.log2_lt (n := j.natAbs) (k := 1000) (by omega)).mpr h2
    omega
  by_cases hp : 0 < j
  · simp only [fDiv, hp, lg, true_and, if_true, sInt]
    rw [Int.fdiv_eq_ediv_of_nonneg i (by omega)]
  · have hn : j < 0 := by omega
    simp only [fDiv, hp, hn, lg, false_and, true_and, if_false, if_true, sInt]
/-! #### loops -/
theorem while_end {c : M Bool} {body : M Fl} {τ τ1 : List S} (h : c τ = .ok (false, τ1)) : sWhile c body τ = .ok (.nx, τ1) := by
  have e : whileN c body 1 τ = .ok (some .nx, τ1) := by
    simp only [whileN, M.bnd, h, M.ret, Bool.false_eq_true, if_false]
  rw [while_eq (n := 1) (fun τ' z => by rw [e] at z; cases z), e]
theorem while_step {c : M Bool} {body : M Fl} {τ τ1 τ2 : List S} {r : R (Fl × List S)} {n : Nat} (h : c τ = .ok (true, τ1)) (hb : body τ1 = .ok (.nx, τ2)) {f : Fl} {τ3 : List S} (hw : whileN c body n τ2 = .ok (some f, τ3)) : whileN c body (n + 1) τ = .ok (some f, τ3) := by
  simp only [whileN, M.bnd, h, hb, if_true]
  exact hw
theorem while_ok {c : M Bool} {body : M Fl} {τ τ' : List S} {n : Nat} {f : Fl} (h : whileN c body n τ = .ok (some f, τ')) : sWhile c body τ = .ok (f, τ') := by
  rw [while_eq (n := n) (fun τ' z => by rw [h] at z; cases z), h]
end Mi

/-! ### N2: mirrors at slots, by parts -/
namespace Mi
open PySem PySem.Spec PyProof.Rows L2
section
variable {m n : M Fl} {c t : M Bool} {ma mb e : M S} {ms : M (List S)} {τ τ1 τ2 τ3 τ4 : List S} {s s1 s2 : S} {d d1 d2 : D} {ss : List S} {ds : List D}
theorem seq_nx (h : m τ = .ok (.nx, τ1)) : sSeq m n τ = n τ1 := by rw [seq_ap, h]
theorem seq_rt (h : m τ = .ok (.rt s, τ1)) : sSeq m n τ = .ok (.rt s, τ1) := by rw [seq_ap, h]
theorem if_skip (h : c τ = .ok (false, τ1)) : sIf c m sNil τ = .ok (.nx, τ1) := by
  simp only [sif_ap, bnd_ap, h, Bool.false_eq_true, if_false, nil_ap]
theorem if_f (h : c τ = .ok (false, τ1)) : sIf c m n τ = n τ1 := by
  simp only [sif_ap, bnd_ap, h, Bool.false_eq_true, if_false]
theorem if_t (h : c τ = .ok (true, τ1)) : sIf c m n τ = m τ1 := by
  simp only [sif_ap, bnd_ap, h, if_true]
theorem or_ff (h : c τ = .ok (false, τ1)) (k : t τ1 = .ok (false, τ2)) : bOr c t τ = .ok (false, τ2) := by
  simp only [bor_ap, bnd_ap, h, Bool.false_eq_true, if_false, k]
theorem or_t (h : c τ = .ok (true, τ1)) : bOr c t τ = .ok (true, τ1) := by
  simp only [bor_ap, bnd_ap, h, if_true, M.ret]
theorem and_f (h : c τ = .ok (false, τ1)) : bAnd c t τ = .ok (false, τ1) := by
  simp only [band_ap, bnd_ap, h, Bool.false_eq_true, if_false, M.ret]
theorem and_t {b : Bool} (h : c τ = .ok (true, τ1)) (k : t τ1 = .ok (b, τ2)) : bAnd c t τ = .ok (b, τ2) := by
  simp only [band_ap, bnd_ap, h, if_true, k]
theorem bv {b : Bool} (h : e τ = .ok (.val (.bl b), τ1)) : bVal e τ = .ok (b, τ1) := by
  simp only [bval_ap, bnd_ap, h, of_ap, asB]
theorem nt {b : Bool} (h : c τ = .ok (b, τ1)) : bNot c τ = .ok (!b, τ1) := by
  simp only [bnot_ap, bnd_ap, h, M.ret]
theorem eand_t {b : Bool} (h : ma τ = .ok (.val (.bl true), τ1)) (k : mb τ1 = .ok (.val (.bl b), τ2)) : eAnd ma mb τ = .ok (.val (.bl b), τ2) := by
  simp only [and_ap, bnd_ap, h, of_ap, asB, if_true, k]
theorem op_v {f : D → D → Option S} (h1 : ma τ = .ok (s1, τ1)) (h2 : mb τ1 = .ok (s2, τ2)) (p1 : peek s1 τ2 = .ok (d1, τ2)) (p2 : peek s2 τ2 = .ok (d2, τ2)) (hf : f d1 d2 = some s) : eOp f ma mb τ = .ok (s, τ2) := by
  simp only [op_ap, bnd_ap, h1, h2, p1, p2, of_ap, hf]
theorem ne_ff {k : Nat} (h1 : ma τ = .ok (s1, τ1)) (h2 : mb τ1 = .ok (s2, τ2)) (p1 : peek s1 τ2 = .ok (d, τ2)) (p2 : peek s2 τ2 = .ok (d, τ2)) (pl : PlN k d) (hk : k ≤ 64) : eOp fNe ma mb τ = .ok (.val (.bl false), τ2) := op_v h1 h2 p1 p2 (fNe_self pl hk)
theorem eq_tt {k : Nat} (h1 : ma τ = .ok (s1, τ1)) (h2 : mb τ1 = .ok (s2, τ2)) (p1 : peek s1 τ2 = .ok (d, τ2)) (p2 : peek s2 τ2 = .ok (d, τ2)) (pl : PlN k d) (hk : k ≤ 64) : eOp fEq ma mb τ = .ok (.val (.bl true), τ2) := op_v h1 h2 p1 p2 (fEq_self pl hk)
theorem var_v {i : Nat} (h : τ[i]? = some (.val d)) : eVar i τ = .ok (.val d, τ) := by rw [var_ap, h]
theorem var_o {i : Nat} {o : O} (h : τ[i]? = some (.own o)) : eVar i τ = .ok (.ali i, τ) := by rw [var_ap, h]
theorem pk_v : peek (.val d) τ = .ok (d, τ) := rfl
theorem pk_o {o : O} : peek (.own o) τ = .ok (o.frz, τ) := rfl
theorem pk_a {i : Nat} {o : O} (h : τ[i]? = some (.own o)) : peek (.ali i) τ = .ok (o.frz, τ) := by rw [pk_ali, h]
theorem tk_v : take (.val d) τ = .ok (d, τ) := rfl
theorem tk_o {o : O} : take (.own o) τ = .ok (o.frz, τ) := rfl
theorem tk_a {i : Nat} {o : O} (h : τ[i]? = some (.own o)) : take (.ali i) τ = .ok (o.frz, τ.set i (.val o.frz)) := by rw [take_ali, h]
theorem call_1 {mf : Fn} {out : List S} (h1 : ma τ = .ok (s1, τ1)) (t1 : take s1 τ1 = .ok (d1, τ2)) (hf : mf [.val d1] = .ok (s, out)) : eCallV mf (lCons ma lNil) τ = .ok (s, τ2) := by
  simp only [cv_ap, lc_ap, ln_ap, bnd_ap, h1, M.ret, ta_cons, ta_nil, t1, List.map_cons, List.map_nil, hf]
theorem call_3 {mf : Fn} {out : List S} {mc : M S} {s3 : S} {d3 : D} {τ5 τ6 : List S} (h1 : ma τ = .ok (s1, τ1)) (h2 : mb τ1 = .ok (s2, τ2)) (h3 : mc τ2 = .ok (s3, τ3)) (t1 : take s1 τ3 = .ok (d1, τ4)) (t2 : take s2 τ4 = .ok (d2, τ5)) (t3 : take s3 τ5 = .ok (d3, τ6)) (hf : mf [.val d1, .val d2, .val d3] = .ok (s, out)) : eCallV mf (lCons ma (lCons mb (lCons mc lNil))) τ = .ok (s, τ6) := by
  simp only [cv_ap, lc_ap, ln_ap, bnd_ap, h1, h2, h3, M.ret, ta_cons, ta_nil, t1, t2, t3, List.map_cons, List.map_nil, hf]
theorem asg_v {i : Nat} (h : ma τ = .ok (.val d, τ1)) : sAsg i ma τ = .ok (.nx, τ1.set i (.val d)) := by
  simp only [asg_ap, bnd_ap, h, give_val]
theorem asg_o {i : Nat} {o : O} (h : ma τ = .ok (.own o, τ1)) : sAsg i ma τ = .ok (.nx, τ1.set i (.own o)) := by
  simp only [asg_ap, bnd_ap, h, give_own]
theorem ret_v (h : ma τ = .ok (.val d, τ1)) : sRet ma τ = .ok (.rt (.val d), τ1) := by
  simp only [ret_ap, bnd_ap, h, give_val, M.ret]
theorem expr_v (h : ma τ = .ok (s, τ1)) : sExpr ma τ = .ok (.nx, τ1) := by
  simp only [expr_ap, bnd_ap, h, M.ret]
theorem lm_2 (h1 : ma τ = .ok (s1, τ1)) (h2 : mb τ1 = .ok (s2, τ2)) : lCons ma (lCons mb lNil) τ = .ok ([s1, s2], τ2) := by
  simp only [lc_ap, ln_ap, bnd_ap, h1, h2, M.ret]
theorem lm_1 (h1 : ma τ = .ok (s1, τ1)) : lCons ma lNil τ = .ok ([s1], τ1) := by
  simp only [lc_ap, ln_ap, bnd_ap, h1, M.ret]
theorem app_v {i : Nat} {xs : List D} {s : S} (ho : τ[i]? = some (.own (.lst xs))) (h : ma τ = .ok (s, τ1)) (ht : take s τ1 = .ok (d, τ2)) (ho2 : τ2[i]? = some (.own (.lst xs))) (hl : xs.length ≤ 1000) : sExpr (eAppend (eVar i) (lCons ma lNil)) τ = .ok (.nx, τ2.set i (.own (.lst (xs ++ [d])))) := by
  refine expr_v (s := .val .non) ?_
  simp only [append_ap, bnd_ap, var_o ho, isL, ho, lc_ap, ln_ap, h, M.ret, ht, onL, ho2, app_of hl]
theorem at_seq {r : R (Fl × List S)} (h : m τ = .ok (.nx, τ1)) (k : n τ1 = r) : sSeq m n τ = r := by rw [seq_nx h, k]
theorem run_1 {np nn : Nat} {m : M Fl} {ss ss' τ : List S} {s : S} (hl : ss.length = np) (h : m (ss ++ List.replicate (nn - ss.length) .non) = .ok (.rt s, τ)) (hr : retS s = true) (hb : back ss τ = some ss') : runFn np nn m ss = .ok (s, ss') := by
  rw [run_ap, if_neg (by rw [hl]; exact fun z => z rfl), h]
  simp only [hr, if_true, hb]
theorem call_l {mf : Fn} {o o' : O} {out : List S} {j : Nat} (h : mf [.lent 0 o] = .ok (s, .lent 0 o' :: out)) : eCallL mf (lCons (eVar 0) lNil) (.lent j o :: τ) = .ok (s, .lent j o' :: τ) := by
  simp only [cl_ap, lc_ap, ln_ap, bnd_ap, var_ap, M.ret, ta_nil, List.getElem?_cons_zero, lendTo, List.map_nil, h, hand, List.set_cons_zero]
theorem call_l1 {mf : Fn} {o o' : O} {out : List S} {j : Nat} (h1 : ma (.lent j o :: τ) = .ok (s1, .lent j o :: τ1)) (t1 : take s1 (.lent j o :: τ1) = .ok (d1, .lent j o :: τ2)) (h : mf [.lent 0 o, .val d1] = .ok (s, .lent 0 o' :: out)) : eCallL mf (lCons (eVar 0) (lCons ma lNil)) (.lent j o :: τ) = .ok (s, .lent j o' :: τ2) := by
  have e : eVar 0 (.lent j o :: τ) = .ok (.ali 0, .lent j o :: τ) := rfl
  simp only [cl_ap, lc_ap, ln_ap, bnd_ap, e, h1, M.ret, ta_cons, ta_nil, t1, List.getElem?_cons_zero, lendTo, List.map_nil, List.map_cons, h, hand, List.set_cons_zero]
theorem asgT_2 {i j : Nat} {a b : D} (h : ma τ = .ok (.val (.tup [a, b]), τ1)) : sAsgT (gTupM 2 (gsCons (gNam i) (gsCons (gNam j) gsEnd))) ma τ = .ok (.nx, (τ1.set i (.val a)).set j (.val b)) := by
  simp only [asgT_ap, bnd_ap, h, give_val, gtup_ap, pk_val, of_ap, unpk, List.length_cons, List.length_nil, if_true, gcons_ap, gnam_ap, gend_ap, M.ret]
theorem asgT_2o {i j : Nat} {a b : D} (h : ma τ = .ok (.own (.lst [a, b]), τ1)) : sAsgT (gTupM 2 (gsCons (gNam i) (gsCons (gNam j) gsEnd))) ma τ = .ok (.nx, (τ1.set i (.val a)).set j (.val b)) := by
  simp only [asgT_ap, bnd_ap, h, give_own, gtup_ap, pk_own, O.frz, of_ap, unpk, List.length_cons, List.length_nil, if_true, gcons_ap, gnam_ap, gend_ap, M.ret]
theorem cb_2 {g : List D → Option S} {s' : S} (h1 : ma τ = .ok (s1, τ1)) (h2 : mb τ1 = .ok (s2, τ2)) (p1 : peek s1 τ2 = .ok (d1, τ2)) (p2 : peek s2 τ2 = .ok (d2, τ2)) (hg : g [d1, d2] = some s') : eCB g (lCons ma (lCons mb lNil)) τ = .ok (s', τ2) := by
  simp only [cb_ap, bnd_ap, lm_2 h1 h2, pa_cons', pa_nil', p1, p2, M.ret, of_ap, hg]
theorem cb_1 {g : List D → Option S} {s' : S} (h1 : ma τ = .ok (s1, τ1)) (p1 : peek s1 τ1 = .ok (d1, τ1)) (hg : g [d1] = some s') : eCB g (lCons ma lNil) τ = .ok (s', τ1) := by
  simp only [cb_ap, bnd_ap, lm_1 h1, pa_cons', pa_nil', p1, M.ret, of_ap, hg]
theorem lit_v {d : D} : eLit d τ = .ok (.val d, τ) := rfl
theorem un_v {g : D → Option S} {s' : S} (h1 : ma τ = .ok (s1, τ1)) (p1 : peek s1 τ1 = .ok (d1, τ1)) (hg : g d1 = some s') : eUn g ma τ = .ok (s', τ1) := by
  simp only [un_ap, bnd_ap, h1, p1, of_ap, hg]
theorem meth_exc {m : Str} {tab : Str → Option Fn} {c : Str} {fs : List (Str × D)} (h : ma τ = .exc c fs τ1) : eMeth m tab ma ms τ = .exc c fs τ1 := by
  simp only [meth_ap, bnd_ap, h]
end
end Mi

namespace K12
open PySem PySem.Spec PyProof.Rows L2 Mi

def top (i : Nat) : Stmt := PySem.Challenge.pw_farseen_k12_pictures_turned_shifted_mult.main.body.getD i (.Pass ⟨0, 0, 0, 0⟩)
abbrev s__wall : Stmt := top 0
abbrev s_SeenError : Stmt := top 2
abbrev s_BadNumber : Stmt := top 3
abbrev s_BadPicture : Stmt := top 4
abbrev s_Misfit : Stmt := top 5
abbrev s_Missing : Stmt := top 6
abbrev s_NoPin : Stmt := top 7
abbrev s_TooMany : Stmt := top 8
abbrev s_BadText : Stmt := top 9
abbrev s_is_integer : Stmt := top 12
abbrev s_is_within : Stmt := top 13
abbrev s_need_number : Stmt := top 14
abbrev s_need_pin : Stmt := top 15
abbrev s_integer_of : Stmt := top 18
abbrev s_Scan : Stmt := top 19
abbrev s_is_place : Stmt := top 25
abbrev s_are_places : Stmt := top 26
abbrev s_rows_of : Stmt := top 27
abbrev s_changed : Stmt := top 28
abbrev s_take_place : Stmt := top 29
abbrev s_take_places : Stmt := top 30
abbrev s_Picture : Stmt := top 31
abbrev s__law_lens : Stmt := top 33
abbrev s__law_shot : Stmt := top 34
abbrev s__law_pick : Stmt := top 35
abbrev s__law_places : Stmt := top 36
abbrev s__law_two : Stmt := top 37
abbrev s__law_at : Stmt := top 38
abbrev s__law_farthest : Stmt := top 39
abbrev s__law_heard : Stmt := top 40
abbrev s__law_due : Stmt := top 41
abbrev s__law_products : Stmt := top 42
abbrev s__law_are_times : Stmt := top 43
abbrev s__law_turned_right : Stmt := top 44
abbrev s__law_changed_right : Stmt := top 45
abbrev s__law_refused_right : Stmt := top 46
abbrev s_law : Stmt := top 47
abbrev s_BadNumber_init : Stmt := (C8.clsBody s_BadNumber).getD 0 (.Pass ⟨0, 0, 0, 0⟩)
abbrev s_BadPicture_init : Stmt := (C8.clsBody s_BadPicture).getD 0 (.Pass ⟨0, 0, 0, 0⟩)
abbrev s_Misfit_init : Stmt := (C8.clsBody s_Misfit).getD 0 (.Pass ⟨0, 0, 0, 0⟩)
abbrev s_Missing_init : Stmt := (C8.clsBody s_Missing).getD 0 (.Pass ⟨0, 0, 0, 0⟩)
abbrev s_TooMany_init : Stmt := (C8.clsBody s_TooMany).getD 0 (.Pass ⟨0, 0, 0, 0⟩)
abbrev s_BadText_init : Stmt := (C8.clsBody s_BadText).getD 0 (.Pass ⟨0, 0, 0, 0⟩)
abbrev s_Scan_init : Stmt := (C8.clsBody s_Scan).getD 0 (.Pass ⟨0, 0, 0, 0⟩)
abbrev s_Picture_init : Stmt := (C8.clsBody s_Picture).getD 0 (.Pass ⟨0, 0, 0, 0⟩)
abbrev s_Picture____eq__ : Stmt := (C8.clsBody s_Picture).getD 12 (.Pass ⟨0, 0, 0, 0⟩)
abbrev s_Picture____init__ : Stmt := (C8.clsBody s_Picture).getD 0 (.Pass ⟨0, 0, 0, 0⟩)
abbrev s_Picture__mirrored : Stmt := (C8.clsBody s_Picture).getD 7 (.Pass ⟨0, 0, 0, 0⟩)
abbrev s_Picture__shifted : Stmt := (C8.clsBody s_Picture).getD 5 (.Pass ⟨0, 0, 0, 0⟩)
abbrev s_Picture__times : Stmt := (C8.clsBody s_Picture).getD 8 (.Pass ⟨0, 0, 0, 0⟩)
abbrev s_Picture__turned : Stmt := (C8.clsBody s_Picture).getD 6 (.Pass ⟨0, 0, 0, 0⟩)
abbrev s_Picture__steps : Stmt := (C8.clsBody s_Picture).getD 2 (.Pass ⟨0, 0, 0, 0⟩)
abbrev s_Picture__products : Stmt := (C8.clsBody s_Picture).getD 3 (.Pass ⟨0, 0, 0, 0⟩)
/-! what isinstance tells -/
def isL0 : IsL := [(.bt "NoneType", .bt "list", false), (.bt "NoneType", .own "Picture", false), (.bt "NoneType", .own "BadNumber", false), (.bt "NoneType", .own "TooMany", false), (.bt "NoneType", .bt "tuple", false), (.bt "NoneType", .bt "int", false), (.bt "NoneType", .bt "bool", false), (.bt "bool", .bt "list", false), (.bt "bool", .own "Picture", false), (.bt "bool", .own "BadNumber", false), (.bt "bool", .own "TooMany", false), (.bt "bool", .bt "tuple", false), (.bt "bool", .bt "int", true), (.bt "bool", .bt "bool", true), (.bt "int", .bt "list", false), (.bt "int", .own "Picture", false), (.bt "int", .own "BadNumber", false), (.bt "int", .own "TooMany", false), (.bt "int", .bt "tuple", false), (.bt "int", .bt "int", true), (.bt "int", .bt "bool", false), (.bt "str", .bt "list", false), (.bt "str", .own "Picture", false), (.bt "str", .own "BadNumber", false), (.bt "str", .own "TooMany", false), (.bt "str", .bt "tuple", false), (.bt "str", .bt "int", false), (.bt "str", .bt "bool", false), (.bt "list", .bt "list", true), (.bt "list", .own "Picture", false)]
def isL1 : IsL := [(.bt "list", .own "BadNumber", false), (.bt "list", .own "TooMany", false), (.bt "list", .bt "tuple", false), (.bt "list", .bt "int", false), (.bt "list", .bt "bool", false), (.bt "tuple", .bt "list", false), (.bt "tuple", .own "Picture", false), (.bt "tuple", .own "BadNumber", false), (.bt "tuple", .own "TooMany", false), (.bt "tuple", .bt "tuple", true), (.bt "tuple", .bt "int", false), (.bt "tuple", .bt "bool", false), (.bt "dict", .bt "list", false), (.bt "dict", .own "Picture", false), (.bt "dict", .own "BadNumber", false), (.bt "dict", .own "TooMany", false), (.bt "dict", .bt "tuple", false), (.bt "dict", .bt "int", false), (.bt "dict", .bt "bool", false), (.exc "BadPicture", .bt "list", false), (.exc "BadPicture", .own "Picture", false), (.exc "BadPicture", .own "BadNumber", false), (.exc "BadPicture", .own "TooMany", false), (.exc "BadPicture", .bt "tuple", false), (.exc "BadPicture", .bt "int", false), (.exc "BadPicture", .bt "bool", false), (.exc "TooMany", .bt "list", false), (.exc "TooMany", .own "Picture", false), (.exc "TooMany", .own "BadNumber", false), (.exc "TooMany", .own "TooMany", true)]
def isL2 : IsL := [(.exc "TooMany", .bt "tuple", false), (.exc "TooMany", .bt "int", false), (.exc "TooMany", .bt "bool", false), (.exc "BadNumber", .bt "list", false), (.exc "BadNumber", .own "Picture", false), (.exc "BadNumber", .own "BadNumber", true), (.exc "BadNumber", .own "TooMany", false), (.exc "BadNumber", .bt "tuple", false), (.exc "BadNumber", .bt "int", false), (.exc "BadNumber", .bt "bool", false), (.ins "Picture", .bt "list", false), (.ins "Picture", .own "Picture", true), (.ins "Picture", .own "BadNumber", false), (.ins "Picture", .own "TooMany", false), (.ins "Picture", .bt "tuple", false), (.ins "Picture", .bt "int", false), (.ins "Picture", .bt "bool", false)]
def isL : IsL := isL0 ++ isL1 ++ isL2
def isT : IsT := isTb isL
def tgs : List Tg := [.bt "NoneType", .bt "bool", .bt "int", .bt "str", .bt "list", .bt "tuple", .bt "dict", .exc "BadPicture", .exc "TooMany", .exc "BadNumber", .ins "Picture"]
def is_rows : List Str := ["Scan", "Picture"]
def is_places : List Str := ["Scan", "Picture"]
def is_part : List Str := ["Scan", "Picture"]
def is_most : List Str := ["Scan", "Picture"]
def is_what : List Str := ["Scan", "Picture"]
def es_rows : List Str := []
def es_places : List Str := []
def es_part : List Str := ["BadPicture", "BadNumber"]
def es_most : List Str := ["TooMany"]
def es_what : List Str := ["TooMany"]
def cl_SeenError : List (Str × Bool) := [("BadPicture", true), ("TooMany", true), ("BadNumber", true)]
def ct_SeenError : Str → Option Bool := fun x => cl_SeenError.lookup x
noncomputable section
/-! the mirrors -/
def sc_places : List Str := ["Scan", "Picture"]
def sc_pins : List Str := ["Scan", "Picture"]
def sc_rows : List Str := ["Scan", "Picture"]
def m_Picture____eq__ : M Fl := sRet (eAnd (eCB (fIsi isT) (lCons (eVar 1) (lCons (eLit (.cls "Picture")) (lNil)))) (eOp fEq (eUn (fldD "places" is_places es_places) (eVar 0)) (eUn (fldD "places" is_places es_places) (eVar 1))))
def f_Picture____eq__ : Fn := runFn 2 2 m_Picture____eq__
def mt_eq : Str → Option Fn := fun x => [(("Picture" : Str), f_Picture____eq__)].lookup x
def m_is_integer : M Fl := sRet (eAnd (eCB (fIsi isT) (lCons (eVar 0) (lCons (eLit (.ty "int")) (lNil)))) (eNot (eCB (fIsi isT) (lCons (eVar 0) (lCons (eLit (.ty "bool")) (lNil))))))
def f_is_integer : Fn := runFn 1 1 m_is_integer
def m_is_within : M Fl := sSeq (sIf (bNot (bVal (eCallV f_is_integer (lCons (eVar 0) (lNil))))) (sRet (eLit (.bl false))) (sNil)) (sRet (eAnd (eOr (eOp fIsN (eVar 1) (eLit .non)) (eOp fLe (eVar 1) (eVar 0))) (eOr (eOp fIsN (eVar 2) (eLit .non)) (eOp fLe (eVar 0) (eVar 2)))))
def f_is_within : Fn := runFn 3 3 m_is_within
def m_is_place : M Fl := sSeq (sIf (bOr (bNot (bVal (eCB (fIsi isT) (lCons (eVar 0) (lCons (eTup (lCons (eLit (.ty "list")) (lCons (eLit (.ty "tuple")) (lNil)))) (lNil)))))) (bVal (eOp fNe (eCB fLen (lCons (eVar 0) (lNil))) (eLit (.int 2))))) (sRet (eLit (.bl false))) (sNil)) (sRet (eCB fAll (lCons (eComp [1] (iSeq (eVar 0)) (gNam 1) (bYes) (eCallV f_is_within (lCons (eVar 1) (lCons (eUn fNeg (eLit (.int 1000000000))) (lCons (eLit (.int 1000000000)) (lNil)))))) (lNil))))
def f_is_place : Fn := runFn 1 2 m_is_place
def m_are_places : M Fl := sRet (eAnd (eCB (fIsi isT) (lCons (eVar 0) (lCons (eTup (lCons (eLit (.ty "list")) (lCons (eLit (.ty "tuple")) (lNil)))) (lNil)))) (eCB fAll (lCons (eComp [1] (iSeq (eVar 0)) (gNam 1) (bYes) (eCallV f_is_place (lCons (eVar 1) (lNil)))) (lNil))))
def f_are_places : Fn := runFn 1 2 m_are_places
def m_rows_of : M Fl := sSeq (sAsgT (gTupM 2 (gsCons (gNam 1) (gsCons (gNam 2) (gsEnd)))) (eOp fIx (eVar 0) (eLit (.int 0)))) (sRet (eTup (lCons (eCB fTuple (lCons (eComp [3] (iSeq (eSl (eVar 0) (pSome (eLit (.int 1))) (pNone))) (gNam 3) (bYes) (eOp fSub (eOp fIx (eVar 3) (eLit (.int 0))) (eVar 1))) (lNil))) (lCons (eCB fTuple (lCons (eComp [3] (iSeq (eSl (eVar 0) (pSome (eLit (.int 1))) (pNone))) (gNam 3) (bYes) (eOp fSub (eOp fIx (eVar 3) (eLit (.int 1))) (eVar 2))) (lNil))) (lNil)))))
def f_rows_of : Fn := runFn 1 4 m_rows_of
def m_Picture____init__ : M Fl := sSeq (sIf (bOr (bNot (bVal (eCallV f_are_places (lCons (eVar 1) (lNil))))) (bNot (bVal (eChain fLe fLe (eLit (.int 4)) (eCB fLen (lCons (eVar 1) (lNil))) (eLit (.int 7)))))) (sRaise "BadPicture" ["part"] (lCons (eLit (.str "places")) (lNil))) (sNil)) (sSeq (sSetF "places" sc_places (eCB fTuple (lCons (eComp [2] (iSeq (eVar 1)) (gNam 2) (bYes) (eCB fTuple (lCons (eVar 2) (lNil)))) (lNil))) (eVar 0)) (sSeq (sSetF "pins" sc_pins (eCB fLen (lCons (eVar 1) (lNil))) (eVar 0)) (sSetF "rows" sc_rows (eCallV f_rows_of (lCons (eUn (fldD "places" is_places es_places) (eVar 0)) (lNil))) (eVar 0))))
def f_Picture____init__ : Fn := runFn 2 3 m_Picture____init__
def m_Picture__mirrored : M Fl := sRet (eMake "Picture" f_Picture____init__ (lCons (eComp [1, 2] (iSeq (eUn (fldD "places" is_places es_places) (eVar 0))) (gTupM 2 (gsCons (gNam 1) (gsCons (gNam 2) (gsEnd)))) (bYes) (eTup (lCons (eUn fNeg (eVar 1)) (lCons (eVar 2) (lNil))))) (lNil)))
def f_Picture__mirrored : Fn := runFn 1 3 m_Picture__mirrored
def mt_mirrored_0 : Str → Option Fn := fun x => [(("Picture" : Str), f_Picture__mirrored)].lookup x
def m_changed : M Fl := sSeq (sIf (bNot (bVal (eCallV f_are_places (lCons (eVar 0) (lNil))))) (sRaise "TooMany" ["what", "most"] (lCons (eLit (.str "places")) (lCons (eLit (.int 1000000000)) (lNil)))) (sNil)) (sRet (eMake "Picture" f_Picture____init__ (lCons (eVar 0) (lNil))))
def f_changed : Fn := runFn 1 1 m_changed
def m_need_number : M Fl := sIf (bNot (bVal (eCallV f_is_within (lCons (eVar 0) (lCons (eVar 2) (lCons (eVar 3) (lNil))))))) (sRaise "BadNumber" ["part"] (lCons (eVar 1) (lNil))) (sNil)
def f_need_number : Fn := runFn 4 4 m_need_number
def m_Picture__shifted : M Fl := sSeq (sExpr (eCallV f_need_number (lCons (eVar 1) (lCons (eLit (.str "x")) (lCons (eLit .non) (lCons (eLit .non) (lNil))))))) (sSeq (sExpr (eCallV f_need_number (lCons (eVar 2) (lCons (eLit (.str "y")) (lCons (eLit .non) (lCons (eLit .non) (lNil))))))) (sRet (eCallV f_changed (lCons (eComp [3, 4] (iSeq (eUn (fldD "places" is_places es_places) (eVar 0))) (gTupM 2 (gsCons (gNam 3) (gsCons (gNam 4) (gsEnd)))) (bYes) (eTup (lCons (eOp fAdd (eVar 3) (eVar 1)) (lCons (eOp fAdd (eVar 4) (eVar 2)) (lNil))))) (lNil)))))
def f_Picture__shifted : Fn := runFn 3 5 m_Picture__shifted
def mt_shifted_2 : Str → Option Fn := fun x => [(("Picture" : Str), f_Picture__shifted)].lookup x
def mtd_shifted_0_y_x : Str → Option Fn := fun x => [(("Picture" : Str), f_Picture__shifted)].lookup x
def m_Picture__times : M Fl := sSeq (sExpr (eCallV f_need_number (lCons (eVar 1) (lCons (eLit (.str "number")) (lCons (eLit .non) (lCons (eLit .non) (lNil))))))) (sRet (eCallV f_changed (lCons (eComp [2, 3] (iSeq (eUn (fldD "places" is_places es_places) (eVar 0))) (gTupM 2 (gsCons (gNam 2) (gsCons (gNam 3) (gsEnd)))) (bYes) (eTup (lCons (eOp fMul (eVar 1) (eVar 2)) (lCons (eOp fMul (eVar 1) (eVar 3)) (lNil))))) (lNil))))
def f_Picture__times : Fn := runFn 2 4 m_Picture__times
def mt_times_1 : Str → Option Fn := fun x => [(("Picture" : Str), f_Picture__times)].lookup x
def mtd_times_0_number : Str → Option Fn := fun x => [(("Picture" : Str), f_Picture__times)].lookup x
def m_Picture__turned : M Fl := sSeq (sExpr (eCallV f_need_number (lCons (eVar 1) (lCons (eLit (.str "x")) (lCons (eLit .non) (lCons (eLit .non) (lNil))))))) (sSeq (sExpr (eCallV f_need_number (lCons (eVar 2) (lCons (eLit (.str "y")) (lCons (eLit .non) (lCons (eLit .non) (lNil))))))) (sRet (eCallV f_changed (lCons (eComp [3, 4] (iSeq (eUn (fldD "places" is_places es_places) (eVar 0))) (gTupM 2 (gsCons (gNam 3) (gsCons (gNam 4) (gsEnd)))) (bYes) (eTup (lCons (eOp fSub (eOp fMul (eVar 1) (eVar 3)) (eOp fMul (eVar 2) (eVar 4))) (lCons (eOp fAdd (eOp fMul (eVar 2) (eVar 3)) (eOp fMul (eVar 1) (eVar 4))) (lNil))))) (lNil)))))
def f_Picture__turned : Fn := runFn 3 5 m_Picture__turned
def mtd_turned_2 : Str → Option Fn := fun x => [(("Picture" : Str), f_Picture__turned)].lookup x
def mtd_turned_0_y : Str → Option Fn := fun x => [(("Picture" : Str), f_Picture__turned)].lookup x
def mtd_turned_0_y_x : Str → Option Fn := fun x => [(("Picture" : Str), f_Picture__turned)].lookup x
def mtd_turned_1 : Str → Option Fn := fun x => [(("Picture" : Str), f_Picture__turned)].lookup x
def mtd_turned_0 : Str → Option Fn := fun x => [(("Picture" : Str), f_Picture__turned)].lookup x
def m_Picture__steps : M Fl := sRet (eListZip (lCons (eOp fIx (eUn (fldD "rows" is_rows es_rows) (eVar 0)) (eLit (.int 0))) (lCons (eOp fIx (eUn (fldD "rows" is_rows es_rows) (eVar 0)) (eLit (.int 1))) (lNil))))
def f_Picture__steps : Fn := runFn 1 1 m_Picture__steps
def mt_steps_0 : Str → Option Fn := fun x => [(("Picture" : Str), f_Picture__steps)].lookup x
def m_Picture__products : M Fl := sRet (eCB fTuple (lCons (eComp [1, 2] (iSeq (eMeth "steps" mt_steps_0 (eVar 0) (lNil))) (gTupM 2 (gsCons (gNam 1) (gsCons (gNam 2) (gsEnd)))) (bYes) (eCB fTuple (lCons (eComp [3, 4] (iSeq (eMeth "steps" mt_steps_0 (eVar 0) (lNil))) (gTupM 2 (gsCons (gNam 3) (gsCons (gNam 4) (gsEnd)))) (bYes) (eOp fAdd (eOp fMul (eVar 1) (eVar 3)) (eOp fMul (eVar 2) (eVar 4)))) (lNil)))) (lNil)))
def f_Picture__products : Fn := runFn 1 5 m_Picture__products
def mt_products_0 : Str → Option Fn := fun x => [(("Picture" : Str), f_Picture__products)].lookup x
def m__law_products : M Fl := sSeq (sAsg 1 (eComp [2] (iSeq (eSl (eVar 0) (pSome (eLit (.int 1))) (pNone))) (gNam 2) (bYes) (eTup (lCons (eOp fSub (eOp fIx (eVar 2) (eLit (.int 0))) (eOp fIx (eOp fIx (eVar 0) (eLit (.int 0))) (eLit (.int 0)))) (lCons (eOp fSub (eOp fIx (eVar 2) (eLit (.int 1))) (eOp fIx (eOp fIx (eVar 0) (eLit (.int 0))) (eLit (.int 1)))) (lNil)))))) (sRet (eComp [3] (iSeq (eVar 1)) (gNam 3) (bYes) (eComp [4] (iSeq (eVar 1)) (gNam 4) (bYes) (eOp fAdd (eOp fMul (eOp fIx (eVar 3) (eLit (.int 0))) (eOp fIx (eVar 4) (eLit (.int 0)))) (eOp fMul (eOp fIx (eVar 3) (eLit (.int 1))) (eOp fIx (eVar 4) (eLit (.int 1))))))))
def f__law_products : Fn := runFn 1 5 m__law_products
def m__law_are_times : M Fl := sRet (eOp fEq (eComp [3] (iSeq (eMeth "products" mt_products_0 (eVar 0) (lNil))) (gNam 3) (bYes) (eCB fList (lCons (eVar 3) (lNil)))) (eComp [3] (iSeq (eCallV f__law_products (lCons (eVar 1) (lNil)))) (gNam 3) (bYes) (eComp [4] (iSeq (eVar 3)) (gNam 4) (bYes) (eOp fMul (eVar 2) (eVar 4)))))
def f__law_are_times : Fn := runFn 3 5 m__law_are_times
def m__law_farthest : M Fl := sRet (eCB fMax (lCons (eComp [1] (iSeq (eVar 0)) (gNam 1) (bYes) (eCB fMax2 (lCons (eCB fAbs (lCons (eOp fIx (eVar 1) (eLit (.int 0))) (lNil))) (lCons (eCB fAbs (lCons (eOp fIx (eVar 1) (eLit (.int 1))) (lNil))) (lNil))))) (lNil)))
def f__law_farthest : Fn := runFn 1 2 m__law_farthest
def m__law_due : M Fl := sRet (eIf (bVal (eOp fLe (eCallV f__law_farthest (lCons (eVar 0) (lNil))) (eOp fPow (eLit (.int 10)) (eLit (.int 9))))) (eVar 0) (eTup (lCons (eLit (.str "places")) (lCons (eOp fPow (eLit (.int 10)) (eLit (.int 9))) (lNil)))))
def f__law_due : Fn := runFn 1 1 m__law_due
def m__law_heard (o : Th) : M Fl := sSeq (sAsgT (gTupM 2 (gsCons (gNam 1) (gsCons (gNam 2) (gsEnd)))) (eTup (lCons (eLit .non) (lCons (eLit .non) (lNil))))) (sSeq (sTry 3 ct_SeenError (sAsg 2 (eThunk o)) (sAsg 1 (eVar 3))) (sSeq (sIf (bVal (eOp fIsN (eVar 1) (eLit .non))) (sRet (eIf (bVal (eCB (fIsi isT) (lCons (eVar 2) (lCons (eLit (.cls "Picture")) (lNil))))) (eComp [4] (iSeq (eUn (fldD "places" is_places es_places) (eVar 2))) (gNam 4) (bYes) (eCB fTuple (lCons (eVar 4) (lNil)))) (eLit (.str "none")))) (sNil)) (sSeq (sIf (bVal (eCB (fIsi isT) (lCons (eVar 1) (lCons (eLit (.cls "BadNumber")) (lNil))))) (sRet (eTup (lCons (eLit (.str "number")) (lCons (eUn (fldD "part" is_part es_part) (eVar 1)) (lNil))))) (sNil)) (sRet (eIf (bVal (eCB (fIsi isT) (lCons (eVar 1) (lCons (eLit (.cls "TooMany")) (lNil))))) (eTup (lCons (eUn (fldD "what" is_what es_what) (eVar 1)) (lCons (eUn (fldD "most" is_most es_most) (eVar 1)) (lNil)))) (eTup (lCons (eLit (.str "other")) (lNil))))))))
def g__law_heard : Th → R Mi.S := runG 5 m__law_heard
def m__law_shot : M Fl := sSeq (sIf (bVal (eOp fGt (eOp fIx (eVar 0) (eLit (.int 2))) (eLit (.int 0)))) (sSeq (sAsg 2 (eOp fIx (eVar 0) (eLit (.int 2)))) (sSeq (sSetIx (eOp fDiv (eCB fInt (lCons (eVar 2) (lNil))) (eVar 1)) (eVar 0) (eLit (.int 2))) (sRet (eOp fMod (eCB fInt (lCons (eVar 2) (lNil))) (eVar 1))))) (sNil)) (sSeq (sAsg 3 (eOp fIx (eVar 0) (eLit (.int 1)))) (sSeq (sSetIx (eOp fAdd (eVar 3) (eLit (.int 1))) (eVar 0) (eLit (.int 1))) (sSeq (sAsg 4 (eOp fAdd (eOp fMul (eLit (.int 40151)) (eVar 3)) (eLit (.int 3121)))) (sSeq (sIf (bVal (eOp fNe (eOp fIx (eVar 0) (eLit (.int 0))) (eLst (lNil)))) (sAsg 4 (eOp fIx (eOp fIx (eVar 0) (eLit (.int 0))) (eOp fMod (eCB fInt (lCons (eVar 3) (lNil))) (eCB fLen (lCons (eOp fIx (eVar 0) (eLit (.int 0))) (lNil)))))) (sNil)) (sSeq (sIf (bAnd (bVal (eOp fLt (eVar 3) (eCB fLen (lCons (eOp fIx (eVar 0) (eLit (.int 0))) (lNil))))) (bVal (eOp fGe (eCB fAbs (lCons (eVar 4) (lNil))) (eOp fPow (eLit (.int 10)) (eLit (.int 18)))))) (sSeq (sAsg 2 (eOp fAdd (eOp fMul (eLit (.int 2)) (eOp fSub (eCB fAbs (lCons (eVar 4) (lNil))) (eOp fPow (eLit (.int 10)) (eLit (.int 18))))) (eCB fInt (lCons (eOp fLt (eVar 4) (eLit (.int 0))) (lNil))))) (sSeq (sSetIx (eOp fDiv (eCB fInt (lCons (eVar 2) (lNil))) (eVar 1)) (eVar 0) (eLit (.int 2))) (sRet (eOp fMod (eCB fInt (lCons (eVar 2) (lNil))) (eVar 1))))) (sNil)) (sSeq (sAsg 5 (eOp fMod (eCB fInt (lCons (eOp fPow (eOp fAdd (eOp fAdd (eOp fMod (eCB fInt (lCons (eVar 4) (lNil))) (eLit (.int 2147483563))) (eOp fMul (eLit (.int 81013)) (eVar 3))) (eLit (.int 3121))) (eLit (.int 5))) (lNil))) (eLit (.int 2147483587)))) (sSeq (sAsg 5 (eOp fMod (eCB fInt (lCons (eOp fPow (eOp fAdd (eOp fAdd (eOp fMul (eVar 5) (eOp fAdd (eOp fMul (eLit (.int 2)) (eVar 3)) (eLit (.int 1913)))) (eOp fMul (eOp fMul (eLit (.int 40151)) (eVar 3)) (eVar 3))) (eLit (.int 81013))) (eLit (.int 3))) (lNil))) (eLit (.int 2147483549)))) (sRet (eOp fMod (eCB fInt (lCons (eOp fDiv (eVar 5) (eLit (.int 64))) (lNil))) (eVar 1))))))))))
def f__law_shot : Fn := runFn 2 6 m__law_shot
def m__law_pick : M Fl := sRet (eOp fIx (eVar 1) (eCallL f__law_shot (lCons (eVar 0) (lCons (eCB fLen (lCons (eVar 1) (lNil))) (lNil)))))
def f__law_pick : Fn := runFn 2 2 m__law_pick
def m__law_changed_right : M Fl := sSeq (sAsgT (gTupM 2 (gsCons (gNam 2) (gsCons (gNam 3) (gsEnd)))) (eTup (lCons (eMake "Picture" f_Picture____init__ (lCons (eVar 1) (lNil))) (lCons (eCallV f__law_farthest (lCons (eVar 1) (lNil))) (lNil))))) (sSeq (sAsgT (gTupM 2 (gsCons (gNam 4) (gsCons (gNam 5) (gsEnd)))) (eComp [6] (iRng ranged1 (lCons (eLit (.int 2)) (lNil))) (gNam 6) (bYes) (eCallL f__law_pick (lCons (eVar 0) (lCons (eLst (lCons (eLit (.int 0)) (lCons (eLit (.int 1)) (lCons (eUn fNeg (eLit (.int 1))) (lCons (eOp fSub (eOp fPow (eLit (.int 10)) (eLit (.int 9))) (eVar 3)) (lCons (eOp fAdd (eOp fSub (eOp fPow (eLit (.int 10)) (eLit (.int 9))) (eVar 3)) (eLit (.int 1))) (lCons (eOp fSub (eVar 3) (eOp fPow (eLit (.int 10)) (eLit (.int 9)))) (lCons (eOp fPow (eLit (.int 10)) (eLit (.int 30))) (lCons (eCallL f__law_shot (lCons (eVar 0) (lCons (eLit (.int 99)) (lNil)))) (lNil)))))))))) (lNil)))))) (sSeq (sAsg 7 (eCallL f__law_pick (lCons (eVar 0) (lCons (eLst (lCons (eLit (.int 0)) (lCons (eLit (.int 1)) (lCons (eUn fNeg (eLit (.int 1))) (lCons (eLit (.int 2)) (lCons (eUn fNeg (eLit (.int 3))) (lCons (eCB fInt (lCons (eOp fDiv (eOp fPow (eLit (.int 10)) (eLit (.int 9))) (eCB fMax2 (lCons (eLit (.int 1)) (lCons (eVar 3) (lNil))))) (lNil))) (lCons (eOp fAdd (eCB fInt (lCons (eOp fDiv (eOp fPow (eLit (.int 10)) (eLit (.int 9))) (eCB fMax2 (lCons (eLit (.int 1)) (lCons (eVar 3) (lNil))))) (lNil))) (eLit (.int 1))) (lCons (eUn fNeg (eOp fPow (eLit (.int 10)) (eLit (.int 40)))) (lNil)))))))))) (lNil))))) (sSeq (sAsg 8 (eComp [9] (iSeq (eVar 1)) (gNam 9) (bYes) (eTup (lCons (eOp fAdd (eOp fIx (eVar 9) (eLit (.int 0))) (eVar 4)) (lCons (eOp fAdd (eOp fIx (eVar 9) (eLit (.int 1))) (eVar 5)) (lNil)))))) (sSeq (sIf (bVal (eOp fNe (eLam [2, 4, 5] (eMeth "shifted" mt_shifted_2 (eVar 2) (lCons (eVar 4) (lCons (eVar 5) (lNil)))) g__law_heard) (eCallV f__law_due (lCons (eVar 8) (lNil))))) (sRet (eLit (.bl false))) (sNil)) (sSeq (sIf (bVal (eOp fNe (eLam [2, 4, 5] (eMethD "shifted" [1, 0] 2 [] mtd_shifted_0_y_x (eVar 2) (lCons (eVar 5) (lCons (eVar 4) (lNil)))) g__law_heard) (eCallV f__law_due (lCons (eVar 8) (lNil))))) (sRet (eLit (.bl false))) (sNil)) (sSeq (sIf (bVal (eCB (fIsi isT) (lCons (eCallV f__law_due (lCons (eVar 8) (lNil))) (lCons (eLit (.ty "list")) (lNil))))) (sSeq (sAsg 10 (eMeth "shifted" mt_shifted_2 (eVar 2) (lCons (eVar 4) (lCons (eVar 5) (lNil))))) (sIf (bOr (bVal (eOp fNe (eUn (fldD "rows" is_rows es_rows) (eVar 10)) (eUn (fldD "rows" is_rows es_rows) (eVar 2)))) (bOr (bVal (eOwn true mt_eq (okTs tgs) (eMeth "shifted" mt_shifted_2 (eVar 10) (lCons (eUn fNeg (eVar 4)) (lCons (eUn fNeg (eVar 5)) (lNil)))) (eVar 2))) (bNot (bVal (eCallV f__law_are_times (lCons (eVar 10) (lCons (eVar 1) (lCons (eLit (.int 1)) (lNil))))))))) (sRet (eLit (.bl false))) (sNil))) (sNil)) (sSeq (sAsg 11 (eComp [9] (iSeq (eVar 1)) (gNam 9) (bYes) (eTup (lCons (eOp fMul (eVar 7) (eOp fIx (eVar 9) (eLit (.int 0)))) (lCons (eOp fMul (eVar 7) (eOp fIx (eVar 9) (eLit (.int 1)))) (lNil)))))) (sSeq (sIf (bVal (eOp fNe (eLam [2, 7] (eMeth "times" mt_times_1 (eVar 2) (lCons (eVar 7) (lNil))) g__law_heard) (eCallV f__law_due (lCons (eVar 11) (lNil))))) (sRet (eLit (.bl false))) (sNil)) (sSeq (sIf (bVal (eOp fNe (eLam [2, 7] (eMethD "times" [0] 1 [] mtd_times_0_number (eVar 2) (lCons (eVar 7) (lNil))) g__law_heard) (eCallV f__law_due (lCons (eVar 11) (lNil))))) (sRet (eLit (.bl false))) (sNil)) (sSeq (sIf (bAnd (bVal (eCB (fIsi isT) (lCons (eCallV f__law_due (lCons (eVar 11) (lNil))) (lCons (eLit (.ty "list")) (lNil))))) (bOr (bNot (bVal (eCallV f__law_are_times (lCons (eMeth "times" mt_times_1 (eVar 2) (lCons (eVar 7) (lNil))) (lCons (eVar 1) (lCons (eOp fMul (eVar 7) (eVar 7)) (lNil))))))) (bVal (eOwn true mt_eq (okTs tgs) (eMeth "times" mt_times_1 (eVar 2) (lCons (eVar 7) (lNil))) (eMethD "turned" [0, 1] 2 [.int 0, .int 1] mtd_turned_2 (eVar 2) (lCons (eVar 7) (lCons (eLit (.int 0)) (lNil)))))))) (sRet (eLit (.bl false))) (sNil)) (sSeq (sAsg 12 (eMeth "mirrored" mt_mirrored_0 (eVar 2) (lNil))) (sSeq (sIf (bOr (bVal (eOp fNe (eComp [9] (iSeq (eUn (fldD "places" is_places es_places) (eVar 12))) (gNam 9) (bYes) (eCB fTuple (lCons (eVar 9) (lNil)))) (eComp [9] (iSeq (eVar 1)) (gNam 9) (bYes) (eTup (lCons (eUn fNeg (eOp fIx (eVar 9) (eLit (.int 0)))) (lCons (eOp fIx (eVar 9) (eLit (.int 1))) (lNil))))))) (bNot (bVal (eCallV f__law_are_times (lCons (eVar 12) (lCons (eVar 1) (lCons (eLit (.int 1)) (lNil)))))))) (sRet (eLit (.bl false))) (sNil)) (sRet (eAnd (eOwn false mt_eq (okTs tgs) (eMeth "mirrored" mt_mirrored_0 (eVar 12) (lNil)) (eVar 2)) (eOp fEq (eComp [9] (iSeq (eUn (fldD "places" is_places es_places) (eVar 2))) (gNam 9) (bYes) (eCB fTuple (lCons (eVar 9) (lNil)))) (eVar 1))))))))))))))))
def f__law_changed_right : Fn := runFn 2 13 m__law_changed_right
def m__law_lens : M Fl := sRet (eLst (lCons (eComp [1] (iSeq (eSl (eVar 0) (pNone) (pSome (eLit (.int 61))))) (gNam 1) (bYes) (eCB fInt (lCons (eVar 1) (lNil)))) (lCons (eLit (.int 0)) (lCons (eLit (.int 0)) (lNil)))))
def f__law_lens : Fn := runFn 1 2 m__law_lens
def m__law_places : M Fl := sSeq (sAsgT (gTupM 2 (gsCons (gNam 1) (gsCons (gNam 2) (gsEnd)))) (eTup (lCons (eOp fAdd (eLit (.int 4)) (eCallL f__law_shot (lCons (eVar 0) (lCons (eLit (.int 4)) (lNil))))) (lCons (eCallL f__law_pick (lCons (eVar 0) (lCons (eLst (lCons (eLit (.int 3)) (lCons (eLit (.int 3)) (lCons (eLit (.int 9)) (lCons (eLit (.int 999)) (lCons (eOp fPow (eLit (.int 10)) (eLit (.int 6))) (lNil))))))) (lNil)))) (lNil))))) (sRet (eComp [3] (iRng ranged1 (lCons (eVar 1) (lNil))) (gNam 3) (bYes) (eTup (lCons (eOp fSub (eCallL f__law_shot (lCons (eVar 0) (lCons (eOp fAdd (eOp fMul (eLit (.int 2)) (eVar 2)) (eLit (.int 1))) (lNil)))) (eVar 2)) (lCons (eOp fSub (eCallL f__law_shot (lCons (eVar 0) (lCons (eOp fAdd (eOp fMul (eLit (.int 2)) (eVar 2)) (eLit (.int 1))) (lNil)))) (eVar 2)) (lNil))))))
def f__law_places : Fn := runFn 1 4 m__law_places
def m__law_refused_right : M Fl := sSeq (sAsgT (gTupM 2 (gsCons (gNam 2) (gsCons (gNam 3) (gsEnd)))) (eTup (lCons (eMake "Picture" f_Picture____init__ (lCons (eVar 1) (lNil))) (lCons (eCallL f__law_pick (lCons (eVar 0) (lCons (eLst (lCons (eLit .non) (lCons (eLit (.bl true)) (lCons (eLit (.bl false)) (lCons (eLit (.str "1")) (lCons (eTup (lCons (eLit (.int 1)) (lNil))) (lCons (eLst (lCons (eLit (.int 2)) (lNil))) (lCons (eLit (.dic [])) (lCons (eTup (lCons (eLit (.int 1)) (lCons (eLit (.int 2)) (lNil)))) (lNil)))))))))) (lNil)))) (lNil))))) (sSeq (sAsgT (gTupM 2 (gsCons (gNam 4) (gsCons (gNam 5) (gsEnd)))) (eTup (lCons (eCallL f__law_pick (lCons (eVar 0) (lCons (eLst (lCons (eLit (.str "")) (lCons (eLit .non) (lCons (eLit (.bl false)) (lCons (eLst (lNil)) (lCons (eTup (lCons (eLit (.int 0)) (lCons (eLit (.int 0)) (lNil)))) (lNil))))))) (lNil)))) (lCons (eMake "Picture" f_Picture____init__ (lCons (eLst (lCons (eTup (lCons (eOp fPow (eLit (.int 10)) (eLit (.int 9))) (lCons (eLit (.int 0)) (lNil)))) (lCons (eTup (lCons (eLit (.int 0)) (lCons (eUn fNeg (eOp fPow (eLit (.int 10)) (eLit (.int 9)))) (lNil)))) (lCons (eTup (lCons (eLit (.int 1)) (lCons (eLit (.int 1)) (lNil)))) (lCons (eTup (lCons (eLit (.int 2)) (lCons (eLit (.int 2)) (lNil)))) (lNil)))))) (lNil))) (lNil))))) (sSeq (sAsg 6 (eLst (lCons (eLam [2, 3, 4] (eMethD "turned" [0, 1] 2 [.int 0, .int 1] mtd_turned_2 (eVar 2) (lCons (eVar 3) (lCons (eVar 4) (lNil)))) g__law_heard) (lNil)))) (sSeq (sExpr (eAppend (eVar 6) (lCons (eLam [2, 4] (eMethD "turned" [0, 1] 2 [.int 0, .int 1] mtd_turned_2 (eVar 2) (lCons (eLit (.int 1)) (lCons (eVar 4) (lNil)))) g__law_heard) (lNil)))) (sSeq (sExpr (eAppend (eVar 6) (lCons (eLam [2, 3] (eMethD "turned" [1, 0] 1 [.int 0, .int 1] mtd_turned_0_y (eVar 2) (lCons (eVar 3) (lNil))) g__law_heard) (lNil)))) (sSeq (sAsg 7 (eLst (lCons (eTup (lCons (eLit (.str "number")) (lCons (eLit (.str "x")) (lNil)))) (lCons (eTup (lCons (eLit (.str "number")) (lCons (eLit (.str "y")) (lNil)))) (lCons (eTup (lCons (eLit (.str "number")) (lCons (eLit (.str "y")) (lNil)))) (lNil)))))) (sSeq (sExpr (eAppend (eVar 6) (lCons (eLam [2, 3, 4] (eMeth "shifted" mt_shifted_2 (eVar 2) (lCons (eVar 3) (lCons (eVar 4) (lNil)))) g__law_heard) (lNil)))) (sSeq (sExpr (eAppend (eVar 6) (lCons (eLam [4, 5] (eMeth "shifted" mt_shifted_2 (eVar 5) (lCons (eLit (.int 1)) (lCons (eVar 4) (lNil)))) g__law_heard) (lNil)))) (sSeq (sExpr (eAppend (eVar 6) (lCons (eLam [3, 5] (eMethD "turned" [0, 1] 2 [.int 0, .int 1] mtd_turned_2 (eVar 5) (lCons (eLit (.int 2)) (lCons (eVar 3) (lNil)))) g__law_heard) (lNil)))) (sSeq (sAsg 7 (eOp fAdd (eVar 7) (eLst (lCons (eTup (lCons (eLit (.str "number")) (lCons (eLit (.str "x")) (lNil)))) (lCons (eTup (lCons (eLit (.str "number")) (lCons (eLit (.str "y")) (lNil)))) (lCons (eTup (lCons (eLit (.str "number")) (lCons (eLit (.str "y")) (lNil)))) (lNil))))))) (sSeq (sExpr (eAppend (eVar 6) (lCons (eLam [2, 3] (eMeth "times" mt_times_1 (eVar 2) (lCons (eVar 3) (lNil))) g__law_heard) (lNil)))) (sSeq (sExpr (eAppend (eVar 6) (lCons (eLam [5] (eMeth "shifted" mt_shifted_2 (eVar 5) (lCons (eLit (.int 1)) (lCons (eLit (.int 0)) (lNil)))) g__law_heard) (lNil)))) (sSeq (sExpr (eAppend (eVar 6) (lCons (eLam [5] (eMeth "shifted" mt_shifted_2 (eVar 5) (lCons (eLit (.int 0)) (lCons (eUn fNeg (eLit (.int 1))) (lNil)))) g__law_heard) (lNil)))) (sSeq (sAsg 7 (eOp fAdd (eVar 7) (eLst (lCons (eTup (lCons (eLit (.str "number")) (lCons (eLit (.str "number")) (lNil)))) (lCons (eTup (lCons (eLit (.str "places")) (lCons (eOp fPow (eLit (.int 10)) (eLit (.int 9))) (lNil)))) (lCons (eTup (lCons (eLit (.str "places")) (lCons (eOp fPow (eLit (.int 10)) (eLit (.int 9))) (lNil)))) (lNil))))))) (sSeq (sExpr (eAppend (eVar 6) (lCons (eLam [5] (eMethD "turned" [0, 1] 2 [.int 0, .int 1] mtd_turned_2 (eVar 5) (lCons (eLit (.int 1)) (lCons (eLit (.int 2)) (lNil)))) g__law_heard) (lNil)))) (sSeq (sExpr (eAppend (eVar 6) (lCons (eLam [5] (eMeth "times" mt_times_1 (eVar 5) (lCons (eUn fNeg (eLit (.int 2))) (lNil))) g__law_heard) (lNil)))) (sSeq (sExpr (eAppend (eVar 6) (lCons (eLam [5] (eMeth "times" mt_times_1 (eVar 5) (lCons (eUn fNeg (eLit (.int 1))) (lNil))) g__law_heard) (lNil)))) (sRet (eOp fEq (eVar 6) (eOp fAdd (eVar 7) (eLst (lCons (eTup (lCons (eLit (.str "places")) (lCons (eOp fPow (eLit (.int 10)) (eLit (.int 9))) (lNil)))) (lCons (eTup (lCons (eLit (.str "places")) (lCons (eOp fPow (eLit (.int 10)) (eLit (.int 9))) (lNil)))) (lCons (eLst (lCons (eTup (lCons (eUn fNeg (eOp fPow (eLit (.int 10)) (eLit (.int 9)))) (lCons (eLit (.int 0)) (lNil)))) (lCons (eTup (lCons (eLit (.int 0)) (lCons (eOp fPow (eLit (.int 10)) (eLit (.int 9))) (lNil)))) (lCons (eTup (lCons (eUn fNeg (eLit (.int 1))) (lCons (eUn fNeg (eLit (.int 1))) (lNil)))) (lCons (eTup (lCons (eUn fNeg (eLit (.int 2))) (lCons (eUn fNeg (eLit (.int 2))) (lNil)))) (lNil)))))) (lNil))))))))))))))))))))))))
def f__law_refused_right : Fn := runFn 2 8 m__law_refused_right
def m__law_at : M Fl := sRet (eComp [3] (iSeq (eVar 0)) (gNam 3) (bYes) (eTup (lCons (eOp fSub (eOp fMul (eVar 1) (eOp fIx (eVar 3) (eLit (.int 0)))) (eOp fMul (eVar 2) (eOp fIx (eVar 3) (eLit (.int 1))))) (lCons (eOp fAdd (eOp fMul (eVar 2) (eOp fIx (eVar 3) (eLit (.int 0)))) (eOp fMul (eVar 1) (eOp fIx (eVar 3) (eLit (.int 1))))) (lNil)))))
def f__law_at : Fn := runFn 3 4 m__law_at
def m__law_two : M Fl := sSeq (sAsg 1 (eCallL f__law_shot (lCons (eVar 0) (lCons (eLit (.int 6)) (lNil))))) (sSeq (sIf (bVal (eOp fLt (eVar 1) (eLit (.int 3)))) (sRet (eTup (lCons (eOp fSub (eCallL f__law_shot (lCons (eVar 0) (lCons (eLit (.int 7)) (lNil)))) (eLit (.int 3))) (lCons (eOp fSub (eCallL f__law_shot (lCons (eVar 0) (lCons (eLit (.int 7)) (lNil)))) (eLit (.int 3))) (lNil))))) (sNil)) (sSeq (sIf (bVal (eOp fEq (eVar 1) (eLit (.int 3)))) (sRet (eCallL f__law_pick (lCons (eVar 0) (lCons (eLst (lCons (eTup (lCons (eLit (.int 3)) (lCons (eLit (.int 4)) (lNil)))) (lCons (eTup (lCons (eUn fNeg (eLit (.int 4))) (lCons (eLit (.int 3)) (lNil)))) (lCons (eTup (lCons (eLit (.int 5)) (lCons (eUn fNeg (eLit (.int 12))) (lNil)))) (lCons (eTup (lCons (eLit (.int 0)) (lCons (eUn fNeg (eLit (.int 1))) (lNil)))) (lCons (eTup (lCons (eUn fNeg (eLit (.int 1))) (lCons (eLit (.int 0)) (lNil)))) (lCons (eTup (lCons (eLit (.int 1)) (lCons (eLit (.int 0)) (lNil)))) (lNil)))))))) (lNil))))) (sNil)) (sRet (eIf (bVal (eOp fEq (eVar 1) (eLit (.int 4)))) (eTup (lCons (eLit (.int 0)) (lCons (eLit (.int 0)) (lNil)))) (eTup (lCons (eOp fSub (eCallL f__law_shot (lCons (eVar 0) (lCons (eLit (.int 2001)) (lNil)))) (eLit (.int 1000))) (lCons (eOp fSub (eCallL f__law_shot (lCons (eVar 0) (lCons (eLit (.int 2001)) (lNil)))) (eLit (.int 1000))) (lNil))))))))
def f__law_two : Fn := runFn 1 2 m__law_two
def m__law_turned_right : M Fl := sSeq (sAsg 2 (eMake "Picture" f_Picture____init__ (lCons (eVar 1) (lNil)))) (sSeq (sAsgT (gTupM 2 (gsCons (gNam 3) (gsCons (gNam 4) (gsEnd)))) (eCallL f__law_two (lCons (eVar 0) (lNil)))) (sSeq (sAsgT (gTupM 2 (gsCons (gNam 5) (gsCons (gNam 6) (gsEnd)))) (eCallL f__law_two (lCons (eVar 0) (lNil)))) (sSeq (sPar 7 8 (lCons (eLam [2, 3, 4] (eMethD "turned" [0, 1] 2 [.int 0, .int 1] mtd_turned_2 (eVar 2) (lCons (eVar 3) (lCons (eVar 4) (lNil)))) g__law_heard) (lCons (eCallV f__law_due (lCons (eCallV f__law_at (lCons (eVar 1) (lCons (eVar 3) (lCons (eVar 4) (lNil))))) (lNil))) (lNil)))) (sSeq (sIf (bOr (bVal (eOp fNe (eVar 7) (eVar 8))) (bVal (eOp fNe (eLam [2, 3, 4] (eMethD "turned" [1, 0] 2 [.int 0, .int 1] mtd_turned_0_y_x (eVar 2) (lCons (eVar 4) (lCons (eVar 3) (lNil)))) g__law_heard) (eVar 8)))) (sRet (eLit (.bl false))) (sNil)) (sSeq (sIf (bVal (eOp fNe (eLam [2, 3] (eMethD "turned" [0, 2] 1 [.int 0, .int 1] mtd_turned_1 (eVar 2) (lCons (eVar 3) (lNil))) g__law_heard) (eCallV f__law_due (lCons (eCallV f__law_at (lCons (eVar 1) (lCons (eVar 3) (lCons (eLit (.int 1)) (lNil))))) (lNil))))) (sRet (eLit (.bl false))) (sNil)) (sSeq (sIf (bOr (bVal (eOp fNe (eLam [2, 6] (eMethD "turned" [1, 0] 1 [.int 0, .int 1] mtd_turned_0_y (eVar 2) (lCons (eVar 6) (lNil))) g__law_heard) (eCallV f__law_due (lCons (eCallV f__law_at (lCons (eVar 1) (lCons (eLit (.int 0)) (lCons (eVar 6) (lNil))))) (lNil))))) (bVal (eOwn true mt_eq (okTs tgs) (eMethD "turned" [0, 1] 0 [.int 0, .int 1] mtd_turned_0 (eVar 2) (lNil)) (eMake "Picture" f_Picture____init__ (lCons (eCallV f__law_at (lCons (eVar 1) (lCons (eLit (.int 0)) (lCons (eLit (.int 1)) (lNil))))) (lNil)))))) (sRet (eLit (.bl false))) (sNil)) (sSeq (sIf (bVal (eCB (fIsi isT) (lCons (eVar 7) (lCons (eLit (.ty "list")) (lNil))))) (sSeq (sAsg 9 (eMethD "turned" [0, 1] 2 [.int 0, .int 1] mtd_turned_2 (eVar 2) (lCons (eVar 3) (lCons (eVar 4) (lNil))))) (sSeq (sIf (bOr (bNot (bVal (eCallV f__law_are_times (lCons (eVar 9) (lCons (eVar 1) (lCons (eOp fAdd (eOp fMul (eVar 3) (eVar 3)) (eOp fMul (eVar 4) (eVar 4))) (lNil))))))) (bVal (eOp fNe (eLam [5, 6, 9] (eMethD "turned" [0, 1] 2 [.int 0, .int 1] mtd_turned_2 (eVar 9) (lCons (eVar 5) (lCons (eVar 6) (lNil)))) g__law_heard) (eCallV f__law_due (lCons (eCallV f__law_at (lCons (eVar 7) (lCons (eVar 5) (lCons (eVar 6) (lNil))))) (lNil)))))) (sRet (eLit (.bl false))) (sNil)) (sIf (bVal (eOp fNe (eLam [2, 3, 4, 5, 6] (eMethD "turned" [0, 1] 2 [.int 0, .int 1] mtd_turned_2 (eVar 2) (lCons (eOp fSub (eOp fMul (eVar 3) (eVar 5)) (eOp fMul (eVar 4) (eVar 6))) (lCons (eOp fAdd (eOp fMul (eVar 3) (eVar 6)) (eOp fMul (eVar 4) (eVar 5))) (lNil)))) g__law_heard) (eCallV f__law_due (lCons (eCallV f__law_at (lCons (eVar 7) (lCons (eVar 5) (lCons (eVar 6) (lNil))))) (lNil))))) (sRet (eLit (.bl false))) (sNil)))) (sNil)) (sSeq (sAsg 10 (eCallV f__law_due (lCons (eCallV f__law_at (lCons (eComp [11] (iSeq (eVar 1)) (gNam 11) (bYes) (eTup (lCons (eUn fNeg (eOp fIx (eVar 11) (eLit (.int 0)))) (lCons (eOp fIx (eVar 11) (eLit (.int 1))) (lNil))))) (lCons (eVar 3) (lCons (eVar 4) (lNil))))) (lNil)))) (sSeq (sIf (bVal (eOp fNe (eLam [2, 3, 4] (eMethD "turned" [0, 1] 2 [.int 0, .int 1] mtd_turned_2 (eMeth "mirrored" mt_mirrored_0 (eVar 2) (lNil)) (lCons (eVar 3) (lCons (eVar 4) (lNil)))) g__law_heard) (eVar 10))) (sRet (eLit (.bl false))) (sNil)) (sSeq (sIf (bVal (eOp fNe (eLam [2, 3, 4] (eMeth "mirrored" mt_mirrored_0 (eMethD "turned" [0, 1] 2 [.int 0, .int 1] mtd_turned_2 (eVar 2) (lCons (eVar 3) (lCons (eUn fNeg (eVar 4)) (lNil)))) (lNil)) g__law_heard) (eVar 10))) (sRet (eLit (.bl false))) (sNil)) (sRet (eAnd (eOwn false mt_eq (okTs tgs) (eMethD "turned" [0, 2] 1 [.int 0, .int 1] mtd_turned_1 (eMethD "turned" [1, 0] 1 [.int 0, .int 1] mtd_turned_0_y (eMethD "turned" [0, 1] 2 [.int 0, .int 1] mtd_turned_2 (eMethD "turned" [0, 1] 0 [.int 0, .int 1] mtd_turned_0 (eVar 2) (lNil)) (lCons (eLit (.int 0)) (lCons (eLit (.int 1)) (lNil)))) (lCons (eLit (.int 1)) (lNil))) (lCons (eLit (.int 0)) (lNil))) (eVar 2)) (eOp fEq (eComp [11] (iSeq (eUn (fldD "places" is_places es_places) (eVar 2))) (gNam 11) (bYes) (eCB fTuple (lCons (eVar 11) (lNil)))) (eVar 1))))))))))))))
def f__law_turned_right : Fn := runFn 2 12 m__law_turned_right
def m_law : M Fl := sSeq (sAsg 1 (eCallV f__law_lens (lCons (eVar 0) (lNil)))) (sSeq (sFor (iRng ranged1 (lCons (eLit (.int 3)) (lNil))) (gNam 2) (sSeq (sAsg 3 (eCallL f__law_places (lCons (eVar 1) (lNil)))) (sIf (bOr (bNot (bVal (eCallL f__law_turned_right (lCons (eVar 1) (lCons (eVar 3) (lNil)))))) (bOr (bNot (bVal (eCallL f__law_changed_right (lCons (eVar 1) (lCons (eVar 3) (lNil)))))) (bNot (bVal (eCallL f__law_refused_right (lCons (eVar 1) (lCons (eVar 3) (lNil)))))))) (sRet (eLit (.bl false))) (sNil)))) (sRet (eLit (.bl true))))
def f_law : Fn := runFn 1 4 m_law
/-! the head: facts by names -/
def df0 : He.DefD := ⟨("Picture", some "__eq__"), "__eq__", "Picture.__eq__", defArgs s_Picture____eq__, defBody s_Picture____eq__, defScope s_Picture____eq__, [], []⟩
def df1 : He.DefD := ⟨("is_integer", none), "is_integer", "is_integer", defArgs s_is_integer, defBody s_is_integer, defScope s_is_integer, [], []⟩
def df2 : He.DefD := ⟨("is_within", none), "is_within", "is_within", defArgs s_is_within, defBody s_is_within, defScope s_is_within, [], []⟩
def df3 : He.DefD := ⟨("is_place", none), "is_place", "is_place", defArgs s_is_place, defBody s_is_place, defScope s_is_place, [], []⟩
def df4 : He.DefD := ⟨("are_places", none), "are_places", "are_places", defArgs s_are_places, defBody s_are_places, defScope s_are_places, [], []⟩
def df5 : He.DefD := ⟨("rows_of", none), "rows_of", "rows_of", defArgs s_rows_of, defBody s_rows_of, defScope s_rows_of, [], []⟩
def df6 : He.DefD := ⟨("Picture", some "__init__"), "__init__", "Picture.__init__", defArgs s_Picture____init__, defBody s_Picture____init__, defScope s_Picture____init__, [], []⟩
def df7 : He.DefD := ⟨("Picture", some "mirrored"), "mirrored", "Picture.mirrored", defArgs s_Picture__mirrored, defBody s_Picture__mirrored, defScope s_Picture__mirrored, [], []⟩
def df8 : He.DefD := ⟨("changed", none), "changed", "changed", defArgs s_changed, defBody s_changed, defScope s_changed, [], []⟩
def df9 : He.DefD := ⟨("need_number", none), "need_number", "need_number", defArgs s_need_number, defBody s_need_number, defScope s_need_number, [], []⟩
def df10 : He.DefD := ⟨("Picture", some "shifted"), "shifted", "Picture.shifted", defArgs s_Picture__shifted, defBody s_Picture__shifted, defScope s_Picture__shifted, [], []⟩
def df11 : He.DefD := ⟨("Picture", some "times"), "times", "Picture.times", defArgs s_Picture__times, defBody s_Picture__times, defScope s_Picture__times, [], []⟩
def df12 : He.DefD := ⟨("Picture", some "turned"), "turned", "Picture.turned", defArgs s_Picture__turned, defBody s_Picture__turned, defScope s_Picture__turned, [.int 0, .int 1], []⟩
def df13 : He.DefD := ⟨("Picture", some "steps"), "steps", "Picture.steps", defArgs s_Picture__steps, defBody s_Picture__steps, defScope s_Picture__steps, [], []⟩
def df14 : He.DefD := ⟨("Picture", some "products"), "products", "Picture.products", defArgs s_Picture__products, defBody s_Picture__products, defScope s_Picture__products, [], []⟩
def df15 : He.DefD := ⟨("_law_products", none), "_law_products", "_law_products", defArgs s__law_products, defBody s__law_products, defScope s__law_products, [], []⟩
def df16 : He.DefD := ⟨("_law_are_times", none), "_law_are_times", "_law_are_times", defArgs s__law_are_times, defBody s__law_are_times, defScope s__law_are_times, [], []⟩
def df17 : He.DefD := ⟨("_law_farthest", none), "_law_farthest", "_law_farthest", defArgs s__law_farthest, defBody s__law_farthest, defScope s__law_farthest, [], []⟩
def df18 : He.DefD := ⟨("_law_due", none), "_law_due", "_law_due", defArgs s__law_due, defBody s__law_due, defScope s__law_due, [], []⟩
def df19 : He.DefD := ⟨("_law_heard", none), "_law_heard", "_law_heard", defArgs s__law_heard, defBody s__law_heard, defScope s__law_heard, [], []⟩
def df20 : He.DefD := ⟨("_law_shot", none), "_law_shot", "_law_shot", defArgs s__law_shot, defBody s__law_shot, defScope s__law_shot, [], []⟩
def df21 : He.DefD := ⟨("_law_pick", none), "_law_pick", "_law_pick", defArgs s__law_pick, defBody s__law_pick, defScope s__law_pick, [], []⟩
def df22 : He.DefD := ⟨("_law_changed_right", none), "_law_changed_right", "_law_changed_right", defArgs s__law_changed_right, defBody s__law_changed_right, defScope s__law_changed_right, [], []⟩
def df23 : He.DefD := ⟨("_law_lens", none), "_law_lens", "_law_lens", defArgs s__law_lens, defBody s__law_lens, defScope s__law_lens, [], []⟩
def df24 : He.DefD := ⟨("_law_places", none), "_law_places", "_law_places", defArgs s__law_places, defBody s__law_places, defScope s__law_places, [], []⟩
def df25 : He.DefD := ⟨("_law_refused_right", none), "_law_refused_right", "_law_refused_right", defArgs s__law_refused_right, defBody s__law_refused_right, defScope s__law_refused_right, [], []⟩
def df26 : He.DefD := ⟨("_law_at", none), "_law_at", "_law_at", defArgs s__law_at, defBody s__law_at, defScope s__law_at, [], []⟩
def df27 : He.DefD := ⟨("_law_two", none), "_law_two", "_law_two", defArgs s__law_two, defBody s__law_two, defScope s__law_two, [], []⟩
def df28 : He.DefD := ⟨("_law_turned_right", none), "_law_turned_right", "_law_turned_right", defArgs s__law_turned_right, defBody s__law_turned_right, defScope s__law_turned_right, [], []⟩
def df29 : He.DefD := ⟨("law", none), "law", "law", defArgs s_law, defBody s_law, defScope s_law, [], []⟩
def df30 : He.DefD := ⟨("BadNumber", some "__init__"), "__init__", "BadNumber.__init__", defArgs s_BadNumber_init, defBody s_BadNumber_init, defScope s_BadNumber_init, [], []⟩
def df31 : He.DefD := ⟨("BadPicture", some "__init__"), "__init__", "BadPicture.__init__", defArgs s_BadPicture_init, defBody s_BadPicture_init, defScope s_BadPicture_init, [], []⟩
def df32 : He.DefD := ⟨("Misfit", some "__init__"), "__init__", "Misfit.__init__", defArgs s_Misfit_init, defBody s_Misfit_init, defScope s_Misfit_init, [], []⟩
def df33 : He.DefD := ⟨("Missing", some "__init__"), "__init__", "Missing.__init__", defArgs s_Missing_init, defBody s_Missing_init, defScope s_Missing_init, [], []⟩
def df34 : He.DefD := ⟨("TooMany", some "__init__"), "__init__", "TooMany.__init__", defArgs s_TooMany_init, defBody s_TooMany_init, defScope s_TooMany_init, [], []⟩
def df35 : He.DefD := ⟨("BadText", some "__init__"), "__init__", "BadText.__init__", defArgs s_BadText_init, defBody s_BadText_init, defScope s_BadText_init, [], []⟩
def df36 : He.DefD := ⟨("Scan", some "__init__"), "__init__", "Scan.__init__", defArgs s_Scan_init, defBody s_Scan_init, defScope s_Scan_init, [], []⟩
def df37 : He.DefD := ⟨("Picture", some "__init__"), "__init__", "Picture.__init__", defArgs s_Picture_init, defBody s_Picture_init, defScope s_Picture_init, [], []⟩
def fn0 : List He.DefD := [df0, df1, df2, df3, df4, df5, df6, df7, df8, df9, df10, df11, df12, df13, df14, df15, df16, df17, df18, df19, df20, df21, df22, df23, df24, df25, df26, df27, df28, df29]
def fn1 : List He.DefD := [df30, df31, df32, df33, df34, df35, df36, df37]
def fn : List He.DefD := fn0 ++ fn1
def fa0 : List He.Fa := [.glo "_wall", .glo "SeenError", .glo "BadNumber", .glo "BadPicture", .glo "Misfit", .glo "Missing", .glo "NoPin", .glo "TooMany", .glo "BadText", .glo "is_integer", .glo "is_within", .glo "need_number", .glo "need_pin", .glo "integer_of", .glo "Scan", .glo "is_place", .glo "are_places", .glo "rows_of", .glo "changed", .glo "take_place", .glo "take_places", .glo "Picture", .glo "_law_lens", .glo "_law_shot", .glo "_law_pick", .glo "_law_places", .glo "_law_two", .glo "_law_at", .glo "_law_farthest", .glo "_law_heard"]
def fa1 : List He.Fa := [.glo "_law_due", .glo "_law_products", .glo "_law_are_times", .glo "_law_turned_right", .glo "_law_changed_right", .glo "_law_refused_right", .glo "law", .free "range", .free "max", .free "int", .free "list", .free "isinstance", .free "tuple", .free "len", .free "abs", .free "all", .free "zip", .free "bool"]
def fa : List He.Fa := fa0 ++ fa1
def tq : List Tq := [(("_law_changed_right", none), "_law_changed_right"), (("_law_refused_right", none), "_law_refused_right"), (("_law_turned_right", none), "_law_turned_right")]
def exs (K : PySem.W.Frag) : List Bool := [decide ((tq.map fun p => (He.cT K p.1).2).Nodup), isB isL K, fldB "rows" is_rows es_rows K, fldB "places" is_places es_places K, fldB "part" is_part es_part K, fldB "most" is_most es_most K, fldB "what" is_what es_what K, catB "SeenError" cl_SeenError K, xokB "BadPicture" ["part"] K, xokB "TooMany" ["what", "most"] K, xokB "BadNumber" ["part"] K, setB "places" sc_places K, setB "pins" sc_pins K, setB "rows" sc_rows K, makB "Picture" K, metB "Picture" "shifted" K, metB "Picture" "times" K, metB "Picture" "mirrored" K, metB "Picture" "products" K, metB "Picture" "steps" K, metB "Picture" "turned" K, eqB "Picture" tgs K, intB "FEWEST_PINS" 4 K, intB "MOST_PINS" 7 K, intB "FARTHEST" 1000000000 K]
section
variable {P : Program} {w : World} {K : PySem.W.Frag} {mg : Str → Option Value} {base : Heap}
theorem tabU (hd : HdOk fa fn tq exs K mg base) : (tq.map fun p => (He.cT K p.1).2).Nodup := of_decide_eq_true (hd.ex 0)
theorem xo_BadPicture (hd : HdOk fa fn tq exs K mg base) : ExcOk P w K mg base (gxOf tq K mg) 1 "BadPicture" ["part"] := by
  obtain ⟨fd, Fu⟩ := hd.df 31 (d := df31)
  exact excOk hd (hd.ex 8) (init1 Fu (C8.fnScope_by (by decide +kernel)) (by decide) (by decide)) (FunD.bindsN (ps := ["self", "part"]) Fu fun _ _ _ _ _ _ us hl => match us, hl with | [_, _], _ => rfl) (by decide)
theorem xo_TooMany (hd : HdOk fa fn tq exs K mg base) : ExcOk P w K mg base (gxOf tq K mg) 1 "TooMany" ["what", "most"] := by
  obtain ⟨fd, Fu⟩ := hd.df 34 (d := df34)
  exact excOk hd (hd.ex 9) (init2 Fu (C8.fnScope_by (by decide +kernel)) (by decide) (by decide) (by decide) (by decide)) (FunD.bindsN (ps := ["self", "what", "most"]) Fu fun _ _ _ _ _ _ us hl => match us, hl with | [_, _, _], _ => rfl) (by decide)
theorem xo_BadNumber (hd : HdOk fa fn tq exs K mg base) : ExcOk P w K mg base (gxOf tq K mg) 1 "BadNumber" ["part"] := by
  obtain ⟨fd, Fu⟩ := hd.df 30 (d := df30)
  exact excOk hd (hd.ex 10) (init1 Fu (C8.fnScope_by (by decide +kernel)) (by decide) (by decide)) (FunD.bindsN (ps := ["self", "part"]) Fu fun _ _ _ _ _ _ us hl => match us, hl with | [_, _], _ => rfl) (by decide)
theorem sc_Picture____eq__ : FnScope ["self", "other"] ["self", "other"] (defScope s_Picture____eq__) := C8.fnScope_by (by decide +kernel)
theorem o_Picture____eq__ {fd : FuncData} (hd : HdOk fa fn tq exs K mg base) (Fu : FunD K "__eq__" "Picture.__eq__" (defArgs s_Picture____eq__) (defBody s_Picture____eq__) (defScope s_Picture____eq__) [] [] (He.fAd K ("Picture", some "__eq__")) fd) : FnOk P w K mg base (L2.CX P w) 1 (He.fAd K ("Picture", some "__eq__")) fd ["self", "other"] (spM (gxOf tq K mg) 2 f_Picture____eq__) :=
  fnD (N := ["self", "other"]) (k := 0) (m := m_Picture____eq__) rfl Fu sc_Picture____eq__ fun cdv A outer s H E F hc eG hr ft => by
    obtain ⟨G', Φ0, H0, Pl, rw⟩ := F; cases eG
    exact (bl_one (sm_ret (em_and (x_isi ft (isOk hd (hd.ex 1)) (hd.free 41) (lm_cons (em_var 1) (lm_cons (em_gcls globOk (hd.glo 21)) lm_nil))) (em_one (x_eq ft (unitsOk hr) (em_fld (fldOk hd (hd.ex 3)) (em_var 0)) (em_fld (fldOk hd (hd.ex 3)) (em_var 1)))))))
theorem meq_Picture (hd : HdOk fa fn tq exs K mg base) : Eq1 P w K mg base (gxOf tq K mg) 1 tgs "Picture" f_Picture____eq__ := by
  obtain ⟨fd, Fu⟩ := hd.df 0 (d := df0)
  exact eq1 hd (hd.ex 21) (o_Picture____eq__ hd Fu) (FunD.bindsN (ps := ["self", "other"]) Fu (fun _ _ _ _ _ _ us hl => match us, hl with | [_, _], _ => rfl)) proper_run arity_run
theorem mo_eq (hd : HdOk fa fn tq exs K mg base) : EqOk P w K mg base (gxOf tq K mg) 1 mt_eq (okTs tgs) isT := eqOk (l := [(("Picture" : Str), f_Picture____eq__)]) (isOk hd (hd.ex 1)) (by decide) fun e he => by
  simp only [List.mem_cons, List.not_mem_nil, or_false] at he
  rcases he with rfl
  · exact (meq_Picture hd).up (by decide)
theorem sc_is_integer : FnScope ["value"] ["value"] (defScope s_is_integer) := C8.fnScope_by (by decide +kernel)
theorem o_is_integer {fd : FuncData} (hd : HdOk fa fn tq exs K mg base) (Fu : FunD K "is_integer" "is_integer" (defArgs s_is_integer) (defBody s_is_integer) (defScope s_is_integer) [] [] (He.ga K "is_integer") fd) : FnOk P w K mg base (L2.CX P w) 1 (He.ga K "is_integer") fd ["value"] (spM (gxOf tq K mg) 1 f_is_integer) :=
  fnD (N := ["value"]) (k := 0) (m := m_is_integer) rfl Fu sc_is_integer fun cdv A outer s H E F hc eG hr ft => by
    obtain ⟨G', Φ0, H0, Pl, rw⟩ := F; cases eG
    exact (bl_one (sm_ret (em_and (x_isi ft (isOk hd (hd.ex 1)) (hd.free 41) (lm_cons (em_var 0) (lm_cons (em_gty (hd.free 39)) lm_nil))) (em_one (em_not (x_isi ft (isOk hd (hd.ex 1)) (hd.free 41) (lm_cons (em_var 0) (lm_cons (em_gty (hd.free 47)) lm_nil))))))))
theorem d_is_integer (hd : HdOk fa fn tq exs K mg base) : DefOk P w K mg base (gxOf tq K mg) 1 "is_integer" 1 f_is_integer := by
  obtain ⟨fd, Fu⟩ := hd.df 1 (d := df1)
  exact ⟨⟨_, fd, _, o_is_integer hd Fu, hd.glo 9, Fu.kp, FunD.bindsN (ps := ["value"]) Fu (fun _ _ _ _ _ _ us hl => match us, hl with | [_], _ => rfl)⟩, proper_run, arity_run⟩
theorem sc_is_within : FnScope ["value", "least", "most"] ["value", "least", "most"] (defScope s_is_within) := C8.fnScope_by (by decide +kernel)
theorem o_is_within {fd : FuncData} (hd : HdOk fa fn tq exs K mg base) (Fu : FunD K "is_within" "is_within" (defArgs s_is_within) (defBody s_is_within) (defScope s_is_within) [] [] (He.ga K "is_within") fd) : FnOk P w K mg base (L2.CX P w) 2 (He.ga K "is_within") fd ["value", "least", "most"] (spM (gxOf tq K mg) 3 f_is_within) :=
  fnD (N := ["value", "least", "most"]) (k := 1) (m := m_is_within) rfl Fu sc_is_within fun cdv A outer s H E F hc eG hr ft => by
    obtain ⟨G', Φ0, H0, Pl, rw⟩ := F; cases eG
    exact (bl_cons (sm_if (bm_not (bm_val (em_callV ft (hr.mono (by decide)) (d_is_integer hd) (lm_cons (em_var 0) lm_nil)))) (bl_one (sm_ret em_bl)) bl_nil) (bl_one (sm_ret (em_and (em_or (x_is (em_var 1) em_non) (em_one (x_le (em_var 1) (em_var 0)))) (em_one (em_or (x_is (em_var 2) em_non) (em_one (x_le (em_var 0) (em_var 2)))))))))
theorem d_is_within (hd : HdOk fa fn tq exs K mg base) : DefOk P w K mg base (gxOf tq K mg) 2 "is_within" 3 f_is_within := by
  obtain ⟨fd, Fu⟩ := hd.df 2 (d := df2)
  exact ⟨⟨_, fd, _, o_is_within hd Fu, hd.glo 10, Fu.kp, FunD.bindsN (ps := ["value", "least", "most"]) Fu (fun _ _ _ _ _ _ us hl => match us, hl with | [_, _, _], _ => rfl)⟩, proper_run, arity_run⟩
theorem sc_is_place : FnScope ["value", "each"] ["value"] (defScope s_is_place) := C8.fnScope_by (by decide +kernel)
theorem o_is_place {fd : FuncData} (hd : HdOk fa fn tq exs K mg base) (Fu : FunD K "is_place" "is_place" (defArgs s_is_place) (defBody s_is_place) (defScope s_is_place) [] [] (He.ga K "is_place") fd) : FnOk P w K mg base (L2.CX P w) 3 (He.ga K "is_place") fd ["value"] (spM (gxOf tq K mg) 1 f_is_place) :=
  fnD (N := ["value", "each"]) (k := 2) (m := m_is_place) rfl Fu sc_is_place fun cdv A outer s H E F hc eG hr ft => by
    obtain ⟨G', Φ0, H0, Pl, rw⟩ := F; cases eG
    exact (bl_cons (sm_if (wm_or (bm_not (bm_val (x_isi ft (isOk hd (hd.ex 1)) (hd.free 41) (lm_cons (em_var 0) (lm_cons (em_tup (lm_cons (em_gty (hd.free 40)) (lm_cons (em_gty (hd.free 42)) lm_nil))) lm_nil))))) (wm_or1 (t_ne ft (unitsOk hr) (x_len ft (hd.free 43) (lm_cons (em_var 0) lm_nil)) em_int))).pt (bl_one (sm_ret em_bl)) bl_nil) (bl_one (sm_ret (x_all ft (hd.free 45) (lm_cons (em_comp [("each", 1)] ft (im_seq ft (em_var 0)) (fun s H C cl fp ft => (gm_name 1 ft.nd)) (fun s H C cl fp ft => pts_yes) (fun s H C cl fp ft => (em_callV ft (hr.mono (by decide)) (d_is_within hd) (lm_cons (em_var 1) (lm_cons (x_neg (em_gint hd (hd.ex 24))) (lm_cons (em_gint hd (hd.ex 24)) lm_nil)))))) lm_nil)))))
theorem d_is_place (hd : HdOk fa fn tq exs K mg base) : DefOk P w K mg base (gxOf tq K mg) 3 "is_place" 1 f_is_place := by
  obtain ⟨fd, Fu⟩ := hd.df 3 (d := df3)
  exact ⟨⟨_, fd, _, o_is_place hd Fu, hd.glo 15, Fu.kp, FunD.bindsN (ps := ["value"]) Fu (fun _ _ _ _ _ _ us hl => match us, hl with | [_], _ => rfl)⟩, proper_run, arity_run⟩
theorem sc_are_places : FnScope ["value", "each"] ["value"] (defScope s_are_places) := C8.fnScope_by (by decide +kernel)
theorem o_are_places {fd : FuncData} (hd : HdOk fa fn tq exs K mg base) (Fu : FunD K "are_places" "are_places" (defArgs s_are_places) (defBody s_are_places) (defScope s_are_places) [] [] (He.ga K "are_places") fd) : FnOk P w K mg base (L2.CX P w) 4 (He.ga K "are_places") fd ["value"] (spM (gxOf tq K mg) 1 f_are_places) :=
  fnD (N := ["value", "each"]) (k := 3) (m := m_are_places) rfl Fu sc_are_places fun cdv A outer s H E F hc eG hr ft => by
    obtain ⟨G', Φ0, H0, Pl, rw⟩ := F; cases eG
    exact (bl_one (sm_ret (em_and (x_isi ft (isOk hd (hd.ex 1)) (hd.free 41) (lm_cons (em_var 0) (lm_cons (em_tup (lm_cons (em_gty (hd.free 40)) (lm_cons (em_gty (hd.free 42)) lm_nil))) lm_nil))) (em_one (x_all ft (hd.free 45) (lm_cons (em_comp [("each", 1)] ft (im_seq ft (em_var 0)) (fun s H C cl fp ft => (gm_name 1 ft.nd)) (fun s H C cl fp ft => pts_yes) (fun s H C cl fp ft => (em_callV ft (hr.mono (by decide)) (d_is_place hd) (lm_cons (em_var 1) lm_nil)))) lm_nil))))))
theorem d_are_places (hd : HdOk fa fn tq exs K mg base) : DefOk P w K mg base (gxOf tq K mg) 4 "are_places" 1 f_are_places := by
  obtain ⟨fd, Fu⟩ := hd.df 4 (d := df4)
  exact ⟨⟨_, fd, _, o_are_places hd Fu, hd.glo 16, Fu.kp, FunD.bindsN (ps := ["value"]) Fu (fun _ _ _ _ _ _ us hl => match us, hl with | [_], _ => rfl)⟩, proper_run, arity_run⟩
theorem sc_rows_of : FnScope ["places", "x", "y", "place"] ["places"] (defScope s_rows_of) := C8.fnScope_by (by decide +kernel)
theorem o_rows_of {fd : FuncData} (hd : HdOk fa fn tq exs K mg base) (Fu : FunD K "rows_of" "rows_of" (defArgs s_rows_of) (defBody s_rows_of) (defScope s_rows_of) [] [] (He.ga K "rows_of") fd) : FnOk P w K mg base (L2.CX P w) 1 (He.ga K "rows_of") fd ["places"] (spM (gxOf tq K mg) 1 f_rows_of) :=
  fnD (N := ["places", "x", "y", "place"]) (k := 0) (m := m_rows_of) rfl Fu sc_rows_of fun cdv A outer s H E F hc eG hr ft => by
    obtain ⟨G', Φ0, H0, Pl, rw⟩ := F; cases eG
    exact (bl_cons (sm_asg (x_ix ft (em_var 0) em_int) (gm_tup 2 ft.K ft.calm (gsm_cons (gm_name 1 ft.nd) (gsm_cons (gm_name 2 ft.nd) gsm_nil)))) (bl_one (sm_ret (em_tup (lm_cons (x_tuple ft (hd.free 42) (lm_cons (em_comp [("place", 3)] ft (im_seq ft (em_sl ft.K (em_var 0) (om_some em_int) om_none)) (fun s H C cl fp ft => (gm_name 3 ft.nd)) (fun s H C cl fp ft => pts_yes) (fun s H C cl fp ft => (x_sub (x_ix ft (em_var 3) em_int) (em_var 1)))) lm_nil)) (lm_cons (x_tuple ft (hd.free 42) (lm_cons (em_comp [("place", 3)] ft (im_seq ft (em_sl ft.K (em_var 0) (om_some em_int) om_none)) (fun s H C cl fp ft => (gm_name 3 ft.nd)) (fun s H C cl fp ft => pts_yes) (fun s H C cl fp ft => (x_sub (x_ix ft (em_var 3) em_int) (em_var 2)))) lm_nil)) lm_nil))))))
theorem d_rows_of (hd : HdOk fa fn tq exs K mg base) : DefOk P w K mg base (gxOf tq K mg) 1 "rows_of" 1 f_rows_of := by
  obtain ⟨fd, Fu⟩ := hd.df 5 (d := df5)
  exact ⟨⟨_, fd, _, o_rows_of hd Fu, hd.glo 17, Fu.kp, FunD.bindsN (ps := ["places"]) Fu (fun _ _ _ _ _ _ us hl => match us, hl with | [_], _ => rfl)⟩, proper_run, arity_run⟩
theorem sc_Picture____init__ : FnScope ["self", "places", "place"] ["self", "places"] (defScope s_Picture____init__) := C8.fnScope_by (by decide +kernel)
theorem o_Picture____init__ {fd : FuncData} (hd : HdOk fa fn tq exs K mg base) (Fu : FunD K "__init__" "Picture.__init__" (defArgs s_Picture____init__) (defBody s_Picture____init__) (defScope s_Picture____init__) [] [] (He.fAd K ("Picture", some "__init__")) fd) : FnOk P w K mg base (L2.CX P w) 5 (He.fAd K ("Picture", some "__init__")) fd ["self", "places"] (spM (gxOf tq K mg) 2 f_Picture____init__) :=
  fnD (N := ["self", "places", "place"]) (k := 4) (m := m_Picture____init__) rfl Fu sc_Picture____init__ fun cdv A outer s H E F hc eG hr ft => by
    obtain ⟨G', Φ0, H0, Pl, rw⟩ := F; cases eG
    exact (bl_cons (sm_if (wm_or (bm_not (bm_val (em_callV ft (hr.mono (by decide)) (d_are_places hd) (lm_cons (em_var 1) lm_nil)))) (wm_or1 (bm_not (bm_chain op_le op_le o_cmp o_cmp (em_gint hd (hd.ex 22)) (x_len ft (hd.free 43) (lm_cons (em_var 1) lm_nil)) (em_gint hd (hd.ex 23)))))).pt (bl_one (sm_raise ft (hr.mono (by decide)) (xo_BadPicture hd) (lm_cons em_str lm_nil))) bl_nil) (bl_cons (sm_setF (setOk hd (hd.ex 11)) (x_tuple ft (hd.free 42) (lm_cons (em_comp [("place", 2)] ft (im_seq ft (em_var 1)) (fun s H C cl fp ft => (gm_name 2 ft.nd)) (fun s H C cl fp ft => pts_yes) (fun s H C cl fp ft => (x_tuple ft (hd.free 42) (lm_cons (em_var 2) lm_nil)))) lm_nil)) (em_var 0)) (bl_cons (sm_setF (setOk hd (hd.ex 12)) (x_len ft (hd.free 43) (lm_cons (em_var 1) lm_nil)) (em_var 0)) (bl_one (sm_setF (setOk hd (hd.ex 13)) (em_callV ft (hr.mono (by decide)) (d_rows_of hd) (lm_cons (em_fld (fldOk hd (hd.ex 3)) (em_var 0)) lm_nil)) (em_var 0))))))
theorem mk_Picture (hd : HdOk fa fn tq exs K mg base) : MakOk P w K mg base (gxOf tq K mg) 5 "Picture" 2 f_Picture____init__ := by
  obtain ⟨fd, Fu⟩ := hd.df 6 (d := df6)
  exact makOk hd (hd.ex 14) (o_Picture____init__ hd Fu) (FunD.bindsN (ps := ["self", "places"]) Fu (fun _ _ _ _ _ _ us hl => match us, hl with | [_, _], _ => rfl)) arity_run
theorem sc_Picture__mirrored : FnScope ["self", "a", "b"] ["self"] (defScope s_Picture__mirrored) := C8.fnScope_by (by decide +kernel)
theorem o_Picture__mirrored {fd : FuncData} (hd : HdOk fa fn tq exs K mg base) (Fu : FunD K "mirrored" "Picture.mirrored" (defArgs s_Picture__mirrored) (defBody s_Picture__mirrored) (defScope s_Picture__mirrored) [] [] (He.fAd K ("Picture", some "mirrored")) fd) : FnOk P w K mg base (L2.CX P w) 7 (He.fAd K ("Picture", some "mirrored")) fd ["self"] (spM (gxOf tq K mg) 1 f_Picture__mirrored) :=
  fnD (N := ["self", "a", "b"]) (k := 6) (m := m_Picture__mirrored) rfl Fu sc_Picture__mirrored fun cdv A outer s H E F hc eG hr ft => by
    obtain ⟨G', Φ0, H0, Pl, rw⟩ := F; cases eG
    exact (bl_one (sm_ret (em_make ft (hr.mono (by decide)) (mk_Picture hd) (lm_cons (em_comp [("a", 1), ("b", 2)] ft (im_seq ft (em_fld (fldOk hd (hd.ex 3)) (em_var 0))) (fun s H C cl fp ft => (gm_tup 2 ft.K ft.calm (gsm_cons (gm_name 1 ft.nd) (gsm_cons (gm_name 2 ft.nd) gsm_nil)))) (fun s H C cl fp ft => pts_yes) (fun s H C cl fp ft => (em_tup (lm_cons (x_neg (em_var 1)) (lm_cons (em_var 2) lm_nil))))) lm_nil))))
theorem met_Picture_mirrored (hd : HdOk fa fn tq exs K mg base) : Met1 P w K mg base (gxOf tq K mg) 7 "mirrored" 1 "Picture" f_Picture__mirrored := by
  obtain ⟨fd, Fu⟩ := hd.df 7 (d := df7)
  exact met1 hd (hd.ex 17) (o_Picture__mirrored hd Fu) (FunD.bindsN (ps := ["self"]) Fu (fun _ _ _ _ _ _ us hl => match us, hl with | [_], _ => rfl)) proper_run arity_run
theorem mo_mirrored_0 (hd : HdOk fa fn tq exs K mg base) : MetOk P w K mg base (gxOf tq K mg) 7 "mirrored" 1 mt_mirrored_0 := metOk (l := [(("Picture" : Str), f_Picture__mirrored)]) fun e he => by
  simp only [List.mem_cons, List.not_mem_nil, or_false] at he
  rcases he with rfl
  · exact (met_Picture_mirrored hd).up (by decide)
theorem sc_changed : FnScope ["places"] ["places"] (defScope s_changed) := C8.fnScope_by (by decide +kernel)
theorem o_changed {fd : FuncData} (hd : HdOk fa fn tq exs K mg base) (Fu : FunD K "changed" "changed" (defArgs s_changed) (defBody s_changed) (defScope s_changed) [] [] (He.ga K "changed") fd) : FnOk P w K mg base (L2.CX P w) 7 (He.ga K "changed") fd ["places"] (spM (gxOf tq K mg) 1 f_changed) :=
  fnD (N := ["places"]) (k := 6) (m := m_changed) rfl Fu sc_changed fun cdv A outer s H E F hc eG hr ft => by
    obtain ⟨G', Φ0, H0, Pl, rw⟩ := F; cases eG
    exact (bl_cons (sm_if (bm_not (bm_val (em_callV ft (hr.mono (by decide)) (d_are_places hd) (lm_cons (em_var 0) lm_nil)))) (bl_one (sm_raise ft (hr.mono (by decide)) (xo_TooMany hd) (lm_cons em_str (lm_cons (em_gint hd (hd.ex 24)) lm_nil)))) bl_nil) (bl_one (sm_ret (em_make ft (hr.mono (by decide)) (mk_Picture hd) (lm_cons (em_var 0) lm_nil)))))
theorem d_changed (hd : HdOk fa fn tq exs K mg base) : DefOk P w K mg base (gxOf tq K mg) 7 "changed" 1 f_changed := by
  obtain ⟨fd, Fu⟩ := hd.df 8 (d := df8)
  exact ⟨⟨_, fd, _, o_changed hd Fu, hd.glo 18, Fu.kp, FunD.bindsN (ps := ["places"]) Fu (fun _ _ _ _ _ _ us hl => match us, hl with | [_], _ => rfl)⟩, proper_run, arity_run⟩
theorem sc_need_number : FnScope ["value", "part", "least", "most"] ["value", "part", "least", "most"] (defScope s_need_number) := C8.fnScope_by (by decide +kernel)
theorem o_need_number {fd : FuncData} (hd : HdOk fa fn tq exs K mg base) (Fu : FunD K "need_number" "need_number" (defArgs s_need_number) (defBody s_need_number) (defScope s_need_number) [] [] (He.ga K "need_number") fd) : FnOk P w K mg base (L2.CX P w) 3 (He.ga K "need_number") fd ["value", "part", "least", "most"] (spM (gxOf tq K mg) 4 f_need_number) :=
  fnD (N := ["value", "part", "least", "most"]) (k := 2) (m := m_need_number) rfl Fu sc_need_number fun cdv A outer s H E F hc eG hr ft => by
    obtain ⟨G', Φ0, H0, Pl, rw⟩ := F; cases eG
    exact (bl_one (sm_if (bm_not (bm_val (em_callV ft (hr.mono (by decide)) (d_is_within hd) (lm_cons (em_var 0) (lm_cons (em_var 2) (lm_cons (em_var 3) lm_nil)))))) (bl_one (sm_raise ft (hr.mono (by decide)) (xo_BadNumber hd) (lm_cons (em_var 1) lm_nil))) bl_nil))
theorem d_need_number (hd : HdOk fa fn tq exs K mg base) : DefOk P w K mg base (gxOf tq K mg) 3 "need_number" 4 f_need_number := by
  obtain ⟨fd, Fu⟩ := hd.df 9 (d := df9)
  exact ⟨⟨_, fd, _, o_need_number hd Fu, hd.glo 11, Fu.kp, FunD.bindsN (ps := ["value", "part", "least", "most"]) Fu (fun _ _ _ _ _ _ us hl => match us, hl with | [_, _, _, _], _ => rfl)⟩, proper_run, arity_run⟩
theorem sc_Picture__shifted : FnScope ["self", "x", "y", "a", "b"] ["self", "x", "y"] (defScope s_Picture__shifted) := C8.fnScope_by (by decide +kernel)
theorem o_Picture__shifted {fd : FuncData} (hd : HdOk fa fn tq exs K mg base) (Fu : FunD K "shifted" "Picture.shifted" (defArgs s_Picture__shifted) (defBody s_Picture__shifted) (defScope s_Picture__shifted) [] [] (He.fAd K ("Picture", some "shifted")) fd) : FnOk P w K mg base (L2.CX P w) 8 (He.fAd K ("Picture", some "shifted")) fd ["self", "x", "y"] (spM (gxOf tq K mg) 3 f_Picture__shifted) :=
  fnD (N := ["self", "x", "y", "a", "b"]) (k := 7) (m := m_Picture__shifted) rfl Fu sc_Picture__shifted fun cdv A outer s H E F hc eG hr ft => by
    obtain ⟨G', Φ0, H0, Pl, rw⟩ := F; cases eG
    exact (bl_cons (sm_expr (em_callV ft (hr.mono (by decide)) (d_need_number hd) (lm_cons (em_var 1) (lm_cons em_str (lm_cons em_non (lm_cons em_non lm_nil)))))) (bl_cons (sm_expr (em_callV ft (hr.mono (by decide)) (d_need_number hd) (lm_cons (em_var 2) (lm_cons em_str (lm_cons em_non (lm_cons em_non lm_nil)))))) (bl_one (sm_ret (em_callV ft (hr.mono (by decide)) (d_changed hd) (lm_cons (em_comp [("a", 3), ("b", 4)] ft (im_seq ft (em_fld (fldOk hd (hd.ex 3)) (em_var 0))) (fun s H C cl fp ft => (gm_tup 2 ft.K ft.calm (gsm_cons (gm_name 3 ft.nd) (gsm_cons (gm_name 4 ft.nd) gsm_nil)))) (fun s H C cl fp ft => pts_yes) (fun s H C cl fp ft => (em_tup (lm_cons (x_add ft (em_var 3) (em_var 1)) (lm_cons (x_add ft (em_var 4) (em_var 2)) lm_nil))))) lm_nil))))))
theorem met_Picture_shifted (hd : HdOk fa fn tq exs K mg base) : Met1 P w K mg base (gxOf tq K mg) 8 "shifted" 3 "Picture" f_Picture__shifted := by
  obtain ⟨fd, Fu⟩ := hd.df 10 (d := df10)
  exact met1 hd (hd.ex 15) (o_Picture__shifted hd Fu) (FunD.bindsN (ps := ["self", "x", "y"]) Fu (fun _ _ _ _ _ _ us hl => match us, hl with | [_, _, _], _ => rfl)) proper_run arity_run
theorem metd_Picture_shifted_0_y_x (hd : HdOk fa fn tq exs K mg base) : Met1D P w K mg base (gxOf tq K mg) 8 "shifted" 3 0 ["y", "x"] [1, 0] [] "Picture" f_Picture__shifted := by
  obtain ⟨fd, Fu⟩ := hd.df 10 (d := df10)
  exact met1D hd (hd.ex 15) (o_Picture__shifted hd Fu) ⟨[], .nil, bindD0 (ps := ["self", "x", "y"]) Fu fun _ _ _ _ _ _ v us ws h1 h2 => match us, ws, h1, h2 with | [], [_, _], _, _ => rfl⟩ (fun _ => .nil) proper_run arity_run
theorem mo_shifted_2 (hd : HdOk fa fn tq exs K mg base) : MetOk P w K mg base (gxOf tq K mg) 8 "shifted" 3 mt_shifted_2 := metOk (l := [(("Picture" : Str), f_Picture__shifted)]) fun e he => by
  simp only [List.mem_cons, List.not_mem_nil, or_false] at he
  rcases he with rfl
  · exact (met_Picture_shifted hd).up (by decide)
theorem mod_shifted_0_y_x (hd : HdOk fa fn tq exs K mg base) : MetD P w K mg base (gxOf tq K mg) 8 "shifted" 3 0 ["y", "x"] [1, 0] [] mtd_shifted_0_y_x := metOkD (l := [(("Picture" : Str), f_Picture__shifted)]) fun e he => by
  simp only [List.mem_cons, List.not_mem_nil, or_false] at he
  rcases he with rfl
  · exact (metd_Picture_shifted_0_y_x hd).up (by decide)
theorem sc_Picture__times : FnScope ["self", "number", "a", "b"] ["self", "number"] (defScope s_Picture__times) := C8.fnScope_by (by decide +kernel)
theorem o_Picture__times {fd : FuncData} (hd : HdOk fa fn tq exs K mg base) (Fu : FunD K "times" "Picture.times" (defArgs s_Picture__times) (defBody s_Picture__times) (defScope s_Picture__times) [] [] (He.fAd K ("Picture", some "times")) fd) : FnOk P w K mg base (L2.CX P w) 8 (He.fAd K ("Picture", some "times")) fd ["self", "number"] (spM (gxOf tq K mg) 2 f_Picture__times) :=
  fnD (N := ["self", "number", "a", "b"]) (k := 7) (m := m_Picture__times) rfl Fu sc_Picture__times fun cdv A outer s H E F hc eG hr ft => by
    obtain ⟨G', Φ0, H0, Pl, rw⟩ := F; cases eG
    exact (bl_cons (sm_expr (em_callV ft (hr.mono (by decide)) (d_need_number hd) (lm_cons (em_var 1) (lm_cons em_str (lm_cons em_non (lm_cons em_non lm_nil)))))) (bl_one (sm_ret (em_callV ft (hr.mono (by decide)) (d_changed hd) (lm_cons (em_comp [("a", 2), ("b", 3)] ft (im_seq ft (em_fld (fldOk hd (hd.ex 3)) (em_var 0))) (fun s H C cl fp ft => (gm_tup 2 ft.K ft.calm (gsm_cons (gm_name 2 ft.nd) (gsm_cons (gm_name 3 ft.nd) gsm_nil)))) (fun s H C cl fp ft => pts_yes) (fun s H C cl fp ft => (em_tup (lm_cons (x_mul (em_var 1) (em_var 2)) (lm_cons (x_mul (em_var 1) (em_var 3)) lm_nil))))) lm_nil)))))
theorem met_Picture_times (hd : HdOk fa fn tq exs K mg base) : Met1 P w K mg base (gxOf tq K mg) 8 "times" 2 "Picture" f_Picture__times := by
  obtain ⟨fd, Fu⟩ := hd.df 11 (d := df11)
  exact met1 hd (hd.ex 16) (o_Picture__times hd Fu) (FunD.bindsN (ps := ["self", "number"]) Fu (fun _ _ _ _ _ _ us hl => match us, hl with | [_, _], _ => rfl)) proper_run arity_run
theorem metd_Picture_times_0_number (hd : HdOk fa fn tq exs K mg base) : Met1D P w K mg base (gxOf tq K mg) 8 "times" 2 0 ["number"] [0] [] "Picture" f_Picture__times := by
  obtain ⟨fd, Fu⟩ := hd.df 11 (d := df11)
  exact met1D hd (hd.ex 16) (o_Picture__times hd Fu) ⟨[], .nil, bindD0 (ps := ["self", "number"]) Fu fun _ _ _ _ _ _ v us ws h1 h2 => match us, ws, h1, h2 with | [], [_], _, _ => rfl⟩ (fun _ => .nil) proper_run arity_run
theorem mo_times_1 (hd : HdOk fa fn tq exs K mg base) : MetOk P w K mg base (gxOf tq K mg) 8 "times" 2 mt_times_1 := metOk (l := [(("Picture" : Str), f_Picture__times)]) fun e he => by
  simp only [List.mem_cons, List.not_mem_nil, or_false] at he
  rcases he with rfl
  · exact (met_Picture_times hd).up (by decide)
theorem mod_times_0_number (hd : HdOk fa fn tq exs K mg base) : MetD P w K mg base (gxOf tq K mg) 8 "times" 2 0 ["number"] [0] [] mtd_times_0_number := metOkD (l := [(("Picture" : Str), f_Picture__times)]) fun e he => by
  simp only [List.mem_cons, List.not_mem_nil, or_false] at he
  rcases he with rfl
  · exact (metd_Picture_times_0_number hd).up (by decide)
theorem sc_Picture__turned : FnScope ["self", "x", "y", "a", "b"] ["self", "x", "y"] (defScope s_Picture__turned) := C8.fnScope_by (by decide +kernel)
theorem o_Picture__turned {fd : FuncData} (hd : HdOk fa fn tq exs K mg base) (Fu : FunD K "turned" "Picture.turned" (defArgs s_Picture__turned) (defBody s_Picture__turned) (defScope s_Picture__turned) [.int 0, .int 1] [] (He.fAd K ("Picture", some "turned")) fd) : FnOk P w K mg base (L2.CX P w) 8 (He.fAd K ("Picture", some "turned")) fd ["self", "x", "y"] (spM (gxOf tq K mg) 3 f_Picture__turned) :=
  fnD (N := ["self", "x", "y", "a", "b"]) (k := 7) (m := m_Picture__turned) rfl Fu sc_Picture__turned fun cdv A outer s H E F hc eG hr ft => by
    obtain ⟨G', Φ0, H0, Pl, rw⟩ := F; cases eG
    exact (bl_cons (sm_expr (em_callV ft (hr.mono (by decide)) (d_need_number hd) (lm_cons (em_var 1) (lm_cons em_str (lm_cons em_non (lm_cons em_non lm_nil)))))) (bl_cons (sm_expr (em_callV ft (hr.mono (by decide)) (d_need_number hd) (lm_cons (em_var 2) (lm_cons em_str (lm_cons em_non (lm_cons em_non lm_nil)))))) (bl_one (sm_ret (em_callV ft (hr.mono (by decide)) (d_changed hd) (lm_cons (em_comp [("a", 3), ("b", 4)] ft (im_seq ft (em_fld (fldOk hd (hd.ex 3)) (em_var 0))) (fun s H C cl fp ft => (gm_tup 2 ft.K ft.calm (gsm_cons (gm_name 3 ft.nd) (gsm_cons (gm_name 4 ft.nd) gsm_nil)))) (fun s H C cl fp ft => pts_yes) (fun s H C cl fp ft => (em_tup (lm_cons (x_sub (x_mul (em_var 1) (em_var 3)) (x_mul (em_var 2) (em_var 4))) (lm_cons (x_add ft (x_mul (em_var 2) (em_var 3)) (x_mul (em_var 1) (em_var 4))) lm_nil))))) lm_nil))))))
theorem metd_Picture_turned_2 (hd : HdOk fa fn tq exs K mg base) : Met1D P w K mg base (gxOf tq K mg) 8 "turned" 3 2 [] [0, 1] [.int 0, .int 1] "Picture" f_Picture__turned := by
  obtain ⟨fd, Fu⟩ := hd.df 12 (d := df12)
  exact met1D hd (hd.ex 20) (o_Picture__turned hd Fu) (bindD1 (ps := ["self", "x", "y"]) Fu (List.cons_ne_nil _ _) fun _ _ _ _ _ _ _ v us ws its h1 h2 h3 => match us, ws, its, h1, h2, h3 with | [_, _], [], [_, _], _, _, _ => ⟨_, rfl, rfl⟩) (fun _ => (.cons (.int _) (.cons (.int _) .nil))) proper_run arity_run
theorem metd_Picture_turned_0_y (hd : HdOk fa fn tq exs K mg base) : Met1D P w K mg base (gxOf tq K mg) 8 "turned" 3 0 ["y"] [1, 0] [.int 0, .int 1] "Picture" f_Picture__turned := by
  obtain ⟨fd, Fu⟩ := hd.df 12 (d := df12)
  exact met1D hd (hd.ex 20) (o_Picture__turned hd Fu) (bindD1 (ps := ["self", "x", "y"]) Fu (List.cons_ne_nil _ _) fun _ _ _ _ _ _ _ v us ws its h1 h2 h3 => match us, ws, its, h1, h2, h3 with | [], [_], [_, _], _, _, _ => ⟨_, rfl, rfl⟩) (fun _ => (.cons (.int _) (.cons (.int _) .nil))) proper_run arity_run
theorem metd_Picture_turned_0_y_x (hd : HdOk fa fn tq exs K mg base) : Met1D P w K mg base (gxOf tq K mg) 8 "turned" 3 0 ["y", "x"] [1, 0] [.int 0, .int 1] "Picture" f_Picture__turned := by
  obtain ⟨fd, Fu⟩ := hd.df 12 (d := df12)
  exact met1D hd (hd.ex 20) (o_Picture__turned hd Fu) (bindD1 (ps := ["self", "x", "y"]) Fu (List.cons_ne_nil _ _) fun _ _ _ _ _ _ _ v us ws its h1 h2 h3 => match us, ws, its, h1, h2, h3 with | [], [_, _], [_, _], _, _, _ => ⟨_, rfl, rfl⟩) (fun _ => (.cons (.int _) (.cons (.int _) .nil))) proper_run arity_run
theorem metd_Picture_turned_1 (hd : HdOk fa fn tq exs K mg base) : Met1D P w K mg base (gxOf tq K mg) 8 "turned" 3 1 [] [0, 2] [.int 0, .int 1] "Picture" f_Picture__turned := by
  obtain ⟨fd, Fu⟩ := hd.df 12 (d := df12)
  exact met1D hd (hd.ex 20) (o_Picture__turned hd Fu) (bindD1 (ps := ["self", "x", "y"]) Fu (List.cons_ne_nil _ _) fun _ _ _ _ _ _ _ v us ws its h1 h2 h3 => match us, ws, its, h1, h2, h3 with | [_], [], [_, _], _, _, _ => ⟨_, rfl, rfl⟩) (fun _ => (.cons (.int _) (.cons (.int _) .nil))) proper_run arity_run
theorem metd_Picture_turned_0 (hd : HdOk fa fn tq exs K mg base) : Met1D P w K mg base (gxOf tq K mg) 8 "turned" 3 0 [] [0, 1] [.int 0, .int 1] "Picture" f_Picture__turned := by
  obtain ⟨fd, Fu⟩ := hd.df 12 (d := df12)
  exact met1D hd (hd.ex 20) (o_Picture__turned hd Fu) (bindD1 (ps := ["self", "x", "y"]) Fu (List.cons_ne_nil _ _) fun _ _ _ _ _ _ _ v us ws its h1 h2 h3 => match us, ws, its, h1, h2, h3 with | [], [], [_, _], _, _, _ => ⟨_, rfl, rfl⟩) (fun _ => (.cons (.int _) (.cons (.int _) .nil))) proper_run arity_run
theorem mod_turned_2 (hd : HdOk fa fn tq exs K mg base) : MetD P w K mg base (gxOf tq K mg) 8 "turned" 3 2 [] [0, 1] [.int 0, .int 1] mtd_turned_2 := metOkD (l := [(("Picture" : Str), f_Picture__turned)]) fun e he => by
  simp only [List.mem_cons, List.not_mem_nil, or_false] at he
  rcases he with rfl
  · exact (metd_Picture_turned_2 hd).up (by decide)
theorem mod_turned_0_y (hd : HdOk fa fn tq exs K mg base) : MetD P w K mg base (gxOf tq K mg) 8 "turned" 3 0 ["y"] [1, 0] [.int 0, .int 1] mtd_turned_0_y := metOkD (l := [(("Picture" : Str), f_Picture__turned)]) fun e he => by
  simp only [List.mem_cons, List.not_mem_nil, or_false] at he
  rcases he with rfl
  · exact (metd_Picture_turned_0_y hd).up (by decide)
theorem mod_turned_0_y_x (hd : HdOk fa fn tq exs K mg base) : MetD P w K mg base (gxOf tq K mg) 8 "turned" 3 0 ["y", "x"] [1, 0] [.int 0, .int 1] mtd_turned_0_y_x := metOkD (l := [(("Picture" : Str), f_Picture__turned)]) fun e he => by
  simp only [List.mem_cons, List.not_mem_nil, or_false] at he
  rcases he with rfl
  · exact (metd_Picture_turned_0_y_x hd).up (by decide)
theorem mod_turned_1 (hd : HdOk fa fn tq exs K mg base) : MetD P w K mg base (gxOf tq K mg) 8 "turned" 3 1 [] [0, 2] [.int 0, .int 1] mtd_turned_1 := metOkD (l := [(("Picture" : Str), f_Picture__turned)]) fun e he => by
  simp only [List.mem_cons, List.not_mem_nil, or_false] at he
  rcases he with rfl
  · exact (metd_Picture_turned_1 hd).up (by decide)
theorem mod_turned_0 (hd : HdOk fa fn tq exs K mg base) : MetD P w K mg base (gxOf tq K mg) 8 "turned" 3 0 [] [0, 1] [.int 0, .int 1] mtd_turned_0 := metOkD (l := [(("Picture" : Str), f_Picture__turned)]) fun e he => by
  simp only [List.mem_cons, List.not_mem_nil, or_false] at he
  rcases he with rfl
  · exact (metd_Picture_turned_0 hd).up (by decide)
theorem sc_Picture__steps : FnScope ["self"] ["self"] (defScope s_Picture__steps) := C8.fnScope_by (by decide +kernel)
theorem o_Picture__steps {fd : FuncData} (hd : HdOk fa fn tq exs K mg base) (Fu : FunD K "steps" "Picture.steps" (defArgs s_Picture__steps) (defBody s_Picture__steps) (defScope s_Picture__steps) [] [] (He.fAd K ("Picture", some "steps")) fd) : FnOk P w K mg base (L2.CX P w) 1 (He.fAd K ("Picture", some "steps")) fd ["self"] (spM (gxOf tq K mg) 1 f_Picture__steps) :=
  fnD (N := ["self"]) (k := 0) (m := m_Picture__steps) rfl Fu sc_Picture__steps fun cdv A outer s H E F hc eG hr ft => by
    obtain ⟨G', Φ0, H0, Pl, rw⟩ := F; cases eG
    exact (bl_one (sm_ret (em_listZip ft (hd.free 40) (hd.free 46) (lm_cons (x_ix ft (em_fld (fldOk hd (hd.ex 2)) (em_var 0)) em_int) (lm_cons (x_ix ft (em_fld (fldOk hd (hd.ex 2)) (em_var 0)) em_int) lm_nil)))))
theorem met_Picture_steps (hd : HdOk fa fn tq exs K mg base) : Met1 P w K mg base (gxOf tq K mg) 1 "steps" 1 "Picture" f_Picture__steps := by
  obtain ⟨fd, Fu⟩ := hd.df 13 (d := df13)
  exact met1 hd (hd.ex 19) (o_Picture__steps hd Fu) (FunD.bindsN (ps := ["self"]) Fu (fun _ _ _ _ _ _ us hl => match us, hl with | [_], _ => rfl)) proper_run arity_run
theorem mo_steps_0 (hd : HdOk fa fn tq exs K mg base) : MetOk P w K mg base (gxOf tq K mg) 1 "steps" 1 mt_steps_0 := metOk (l := [(("Picture" : Str), f_Picture__steps)]) fun e he => by
  simp only [List.mem_cons, List.not_mem_nil, or_false] at he
  rcases he with rfl
  · exact (met_Picture_steps hd).up (by decide)
theorem sc_Picture__products : FnScope ["self", "a", "b", "c", "d"] ["self"] (defScope s_Picture__products) := C8.fnScope_by (by decide +kernel)
theorem o_Picture__products {fd : FuncData} (hd : HdOk fa fn tq exs K mg base) (Fu : FunD K "products" "Picture.products" (defArgs s_Picture__products) (defBody s_Picture__products) (defScope s_Picture__products) [] [] (He.fAd K ("Picture", some "products")) fd) : FnOk P w K mg base (L2.CX P w) 2 (He.fAd K ("Picture", some "products")) fd ["self"] (spM (gxOf tq K mg) 1 f_Picture__products) :=
  fnD (N := ["self", "a", "b", "c", "d"]) (k := 1) (m := m_Picture__products) rfl Fu sc_Picture__products fun cdv A outer s H E F hc eG hr ft => by
    obtain ⟨G', Φ0, H0, Pl, rw⟩ := F; cases eG
    exact (bl_one (sm_ret (x_tuple ft (hd.free 42) (lm_cons (em_comp [("a", 1), ("b", 2)] ft (im_seq ft (em_meth0 ft (hr.mono (by decide)) (mo_steps_0 hd) (em_var 0))) (fun s H C cl fp ft => (gm_tup 2 ft.K ft.calm (gsm_cons (gm_name 1 ft.nd) (gsm_cons (gm_name 2 ft.nd) gsm_nil)))) (fun s H C cl fp ft => pts_yes) (fun s H C cl fp ft => (x_tuple ft (hd.free 42) (lm_cons (em_comp [("c", 3), ("d", 4)] ft (im_seq ft (em_meth0 ft (hr.mono (by decide)) (mo_steps_0 hd) (em_var 0))) (fun s H C cl fp ft => (gm_tup 2 ft.K ft.calm (gsm_cons (gm_name 3 ft.nd) (gsm_cons (gm_name 4 ft.nd) gsm_nil)))) (fun s H C cl fp ft => pts_yes) (fun s H C cl fp ft => (x_add ft (x_mul (em_var 1) (em_var 3)) (x_mul (em_var 2) (em_var 4))))) lm_nil)))) lm_nil))))
theorem met_Picture_products (hd : HdOk fa fn tq exs K mg base) : Met1 P w K mg base (gxOf tq K mg) 2 "products" 1 "Picture" f_Picture__products := by
  obtain ⟨fd, Fu⟩ := hd.df 14 (d := df14)
  exact met1 hd (hd.ex 18) (o_Picture__products hd Fu) (FunD.bindsN (ps := ["self"]) Fu (fun _ _ _ _ _ _ us hl => match us, hl with | [_], _ => rfl)) proper_run arity_run
theorem mo_products_0 (hd : HdOk fa fn tq exs K mg base) : MetOk P w K mg base (gxOf tq K mg) 2 "products" 1 mt_products_0 := metOk (l := [(("Picture" : Str), f_Picture__products)]) fun e he => by
  simp only [List.mem_cons, List.not_mem_nil, or_false] at he
  rcases he with rfl
  · exact (met_Picture_products hd).up (by decide)
theorem sc__law_products : FnScope ["_law_places_here", "_law_steps", "_law_place", "_law_step", "_law_its"] ["_law_places_here"] (defScope s__law_products) := C8.fnScope_by (by decide +kernel)
theorem o__law_products {fd : FuncData} (hd : HdOk fa fn tq exs K mg base) (Fu : FunD K "_law_products" "_law_products" (defArgs s__law_products) (defBody s__law_products) (defScope s__law_products) [] [] (He.ga K "_law_products") fd) : FnOk P w K mg base (L2.CX P w) 1 (He.ga K "_law_products") fd ["_law_places_here"] (spM (gxOf tq K mg) 1 f__law_products) :=
  fnD (N := ["_law_places_here", "_law_steps", "_law_place", "_law_step", "_law_its"]) (k := 0) (m := m__law_products) rfl Fu sc__law_products fun cdv A outer s H E F hc eG hr ft => by
    obtain ⟨G', Φ0, H0, Pl, rw⟩ := F; cases eG
    exact (bl_cons (sm_set 1 ft.nd (em_comp [("_law_place", 2)] ft (im_seq ft (em_sl ft.K (em_var 0) (om_some em_int) om_none)) (fun s H C cl fp ft => (gm_name 2 ft.nd)) (fun s H C cl fp ft => pts_yes) (fun s H C cl fp ft => (em_tup (lm_cons (x_sub (x_ix ft (em_var 2) em_int) (x_ix ft (x_ix ft (em_var 0) em_int) em_int)) (lm_cons (x_sub (x_ix ft (em_var 2) em_int) (x_ix ft (x_ix ft (em_var 0) em_int) em_int)) lm_nil)))))) (bl_one (sm_ret (em_comp [("_law_step", 3)] ft (im_seq ft (em_var 1)) (fun s H C cl fp ft => (gm_name 3 ft.nd)) (fun s H C cl fp ft => pts_yes) (fun s H C cl fp ft => (em_comp [("_law_its", 4)] ft (im_seq ft (em_var 1)) (fun s H C cl fp ft => (gm_name 4 ft.nd)) (fun s H C cl fp ft => pts_yes) (fun s H C cl fp ft => (x_add ft (x_mul (x_ix ft (em_var 3) em_int) (x_ix ft (em_var 4) em_int)) (x_mul (x_ix ft (em_var 3) em_int) (x_ix ft (em_var 4) em_int))))))))))
theorem d__law_products (hd : HdOk fa fn tq exs K mg base) : DefOk P w K mg base (gxOf tq K mg) 1 "_law_products" 1 f__law_products := by
  obtain ⟨fd, Fu⟩ := hd.df 15 (d := df15)
  exact ⟨⟨_, fd, _, o__law_products hd Fu, hd.glo 31, Fu.kp, FunD.bindsN (ps := ["_law_places_here"]) Fu (fun _ _ _ _ _ _ us hl => match us, hl with | [_], _ => rfl)⟩, proper_run, arity_run⟩
theorem sc__law_are_times : FnScope ["_law_picture", "_law_places_here", "_law_number", "_law_row", "_law_one"] ["_law_picture", "_law_places_here", "_law_number"] (defScope s__law_are_times) := C8.fnScope_by (by decide +kernel)
theorem o__law_are_times {fd : FuncData} (hd : HdOk fa fn tq exs K mg base) (Fu : FunD K "_law_are_times" "_law_are_times" (defArgs s__law_are_times) (defBody s__law_are_times) (defScope s__law_are_times) [] [] (He.ga K "_law_are_times") fd) : FnOk P w K mg base (L2.CX P w) 3 (He.ga K "_law_are_times") fd ["_law_picture", "_law_places_here", "_law_number"] (spM (gxOf tq K mg) 3 f__law_are_times) :=
  fnD (N := ["_law_picture", "_law_places_here", "_law_number", "_law_row", "_law_one"]) (k := 2) (m := m__law_are_times) rfl Fu sc__law_are_times fun cdv A outer s H E F hc eG hr ft => by
    obtain ⟨G', Φ0, H0, Pl, rw⟩ := F; cases eG
    exact (bl_one (sm_ret (x_eq ft (unitsOk hr) (em_comp [("_law_row", 3)] ft (im_seq ft (em_meth0 ft (hr.mono (by decide)) (mo_products_0 hd) (em_var 0))) (fun s H C cl fp ft => (gm_name 3 ft.nd)) (fun s H C cl fp ft => pts_yes) (fun s H C cl fp ft => (x_list ft (hd.free 40) (lm_cons (em_var 3) lm_nil)))) (em_comp [("_law_row", 3)] ft (im_seq ft (em_callV ft (hr.mono (by decide)) (d__law_products hd) (lm_cons (em_var 1) lm_nil))) (fun s H C cl fp ft => (gm_name 3 ft.nd)) (fun s H C cl fp ft => pts_yes) (fun s H C cl fp ft => (em_comp [("_law_one", 4)] ft (im_seq ft (em_var 3)) (fun s H C cl fp ft => (gm_name 4 ft.nd)) (fun s H C cl fp ft => pts_yes) (fun s H C cl fp ft => (x_mul (em_var 2) (em_var 4)))))))))
theorem d__law_are_times (hd : HdOk fa fn tq exs K mg base) : DefOk P w K mg base (gxOf tq K mg) 3 "_law_are_times" 3 f__law_are_times := by
  obtain ⟨fd, Fu⟩ := hd.df 16 (d := df16)
  exact ⟨⟨_, fd, _, o__law_are_times hd Fu, hd.glo 32, Fu.kp, FunD.bindsN (ps := ["_law_picture", "_law_places_here", "_law_number"]) Fu (fun _ _ _ _ _ _ us hl => match us, hl with | [_, _, _], _ => rfl)⟩, proper_run, arity_run⟩
theorem sc__law_farthest : FnScope ["_law_places_here", "_law_place"] ["_law_places_here"] (defScope s__law_farthest) := C8.fnScope_by (by decide +kernel)
theorem o__law_farthest {fd : FuncData} (hd : HdOk fa fn tq exs K mg base) (Fu : FunD K "_law_farthest" "_law_farthest" (defArgs s__law_farthest) (defBody s__law_farthest) (defScope s__law_farthest) [] [] (He.ga K "_law_farthest") fd) : FnOk P w K mg base (L2.CX P w) 1 (He.ga K "_law_farthest") fd ["_law_places_here"] (spM (gxOf tq K mg) 1 f__law_farthest) :=
  fnD (N := ["_law_places_here", "_law_place"]) (k := 0) (m := m__law_farthest) rfl Fu sc__law_farthest fun cdv A outer s H E F hc eG hr ft => by
    obtain ⟨G', Φ0, H0, Pl, rw⟩ := F; cases eG
    exact (bl_one (sm_ret (x_max ft (hd.free 38) (lm_cons (em_comp [("_law_place", 1)] ft (im_seq ft (em_var 0)) (fun s H C cl fp ft => (gm_name 1 ft.nd)) (fun s H C cl fp ft => pts_yes) (fun s H C cl fp ft => (x_max2 ft (hd.free 38) (lm_cons (x_abs (hd.free 44) (lm_cons (x_ix ft (em_var 1) em_int) lm_nil)) (lm_cons (x_abs (hd.free 44) (lm_cons (x_ix ft (em_var 1) em_int) lm_nil)) lm_nil))))) lm_nil))))
theorem d__law_farthest (hd : HdOk fa fn tq exs K mg base) : DefOk P w K mg base (gxOf tq K mg) 1 "_law_farthest" 1 f__law_farthest := by
  obtain ⟨fd, Fu⟩ := hd.df 17 (d := df17)
  exact ⟨⟨_, fd, _, o__law_farthest hd Fu, hd.glo 28, Fu.kp, FunD.bindsN (ps := ["_law_places_here"]) Fu (fun _ _ _ _ _ _ us hl => match us, hl with | [_], _ => rfl)⟩, proper_run, arity_run⟩
theorem sc__law_due : FnScope ["_law_places_here"] ["_law_places_here"] (defScope s__law_due) := C8.fnScope_by (by decide +kernel)
theorem o__law_due {fd : FuncData} (hd : HdOk fa fn tq exs K mg base) (Fu : FunD K "_law_due" "_law_due" (defArgs s__law_due) (defBody s__law_due) (defScope s__law_due) [] [] (He.ga K "_law_due") fd) : FnOk P w K mg base (L2.CX P w) 2 (He.ga K "_law_due") fd ["_law_places_here"] (spM (gxOf tq K mg) 1 f__law_due) :=
  fnD (N := ["_law_places_here"]) (k := 1) (m := m__law_due) rfl Fu sc__law_due fun cdv A outer s H E F hc eG hr ft => by
    obtain ⟨G', Φ0, H0, Pl, rw⟩ := F; cases eG
    exact (bl_one (sm_ret (em_if (t_le (em_callV ft (hr.mono (by decide)) (d__law_farthest hd) (lm_cons (em_var 0) lm_nil)) (x_pow em_int em_int)) (em_var 0) (em_tup (lm_cons em_str (lm_cons (x_pow em_int em_int) lm_nil))))))
theorem d__law_due (hd : HdOk fa fn tq exs K mg base) : DefOk P w K mg base (gxOf tq K mg) 2 "_law_due" 1 f__law_due := by
  obtain ⟨fd, Fu⟩ := hd.df 18 (d := df18)
  exact ⟨⟨_, fd, _, o__law_due hd Fu, hd.glo 30, Fu.kp, FunD.bindsN (ps := ["_law_places_here"]) Fu (fun _ _ _ _ _ _ us hl => match us, hl with | [_], _ => rfl)⟩, proper_run, arity_run⟩
theorem sc__law_heard : FnScope ["_law_ask", "_law_caught", "_law_made", "error", "_law_place"] ["_law_ask"] (defScope s__law_heard) := C8.fnScope_by (by decide +kernel)
theorem gv__law_heard {k : Nat} (hd : HdOk fa fn tq exs K mg base) : GivOk P w K mg base (gxOf tq K mg) k "_law_heard" g__law_heard := by
  obtain ⟨fd, Fu⟩ := hd.df 19 (d := df19)
  exact givOk (N := ["_law_ask", "_law_caught", "_law_made", "error", "_law_place"]) (a := "_law_ask") (mt := m__law_heard) rfl Fu (hd.glo 29) sc__law_heard (by decide) (by decide) (fun _ _ _ _ _ _ us hl => match us, hl with | [_], _ => rfl) (fun cdv A outer s H E F o eG hr act ft => by
    obtain ⟨G', Φ0, H0, Pl, rw⟩ := F; cases eG
    exact (bl_cons (sm_asg (em_tup (lm_cons em_non (lm_cons em_non lm_nil))) (gm_tup 2 ft.K ft.calm (gsm_cons (gm_name 1 ft.nd) (gsm_cons (gm_name 2 ft.nd) gsm_nil)))) (bl_cons (sm_try 3 ft rfl rfl rfl ⟨rfl, by decide, .inl (hd.cat (hd.ex 7))⟩ (catOk hd (hd.ex 7)) (fun W pn xe ft => (bl_one (sm_set 2 ft.nd (act _ _ _ _ _ ft)))) (fun a pn => (bl_one (sm_set 1 ft.nd (em_var 3))))) (bl_cons (sm_if (t_is (em_var 1) em_non) (bl_one (sm_ret (em_if (bm_val (x_isi ft (isOk hd (hd.ex 1)) (hd.free 41) (lm_cons (em_var 2) (lm_cons (em_gcls globOk (hd.glo 21)) lm_nil)))) (em_comp [("_law_place", 4)] ft (im_seq ft (em_fld (fldOk hd (hd.ex 3)) (em_var 2))) (fun s H C cl fp ft => (gm_name 4 ft.nd)) (fun s H C cl fp ft => pts_yes) (fun s H C cl fp ft => (x_tuple ft (hd.free 42) (lm_cons (em_var 4) lm_nil)))) em_str))) bl_nil) (bl_cons (sm_if (bm_val (x_isi ft (isOk hd (hd.ex 1)) (hd.free 41) (lm_cons (em_var 1) (lm_cons (em_gcls globOk (hd.glo 2)) lm_nil)))) (bl_one (sm_ret (em_tup (lm_cons em_str (lm_cons (em_fld (fldOk hd (hd.ex 4)) (em_var 1)) lm_nil))))) bl_nil) (bl_one (sm_ret (em_if (bm_val (x_isi ft (isOk hd (hd.ex 1)) (hd.free 41) (lm_cons (em_var 1) (lm_cons (em_gcls globOk (hd.glo 7)) lm_nil)))) (em_tup (lm_cons (em_fld (fldOk hd (hd.ex 6)) (em_var 1)) (lm_cons (em_fld (fldOk hd (hd.ex 5)) (em_var 1)) lm_nil))) (em_tup (lm_cons em_str lm_nil))))))))))
theorem sc__law_shot : FnScope ["_law_lens_here", "_law_many", "_law_rest", "_law_turn", "_law_cell", "_law_mixed"] ["_law_lens_here", "_law_many"] (defScope s__law_shot) := C8.fnScope_by (by decide +kernel)
theorem o__law_shot {fd : FuncData} (hd : HdOk fa fn tq exs K mg base) (Fu : FunD K "_law_shot" "_law_shot" (defArgs s__law_shot) (defBody s__law_shot) (defScope s__law_shot) [] [] (He.ga K "_law_shot") fd) : FnOk P w K mg base (L2.CX P w) 1 (He.ga K "_law_shot") fd ["_law_lens_here", "_law_many"] (spM (gxOf tq K mg) 2 f__law_shot) :=
  fnD (N := ["_law_lens_here", "_law_many", "_law_rest", "_law_turn", "_law_cell", "_law_mixed"]) (k := 0) (m := m__law_shot) rfl Fu sc__law_shot fun cdv A outer s H E F hc eG hr ft => by
    obtain ⟨G', Φ0, H0, Pl, rw⟩ := F; cases eG
    exact (bl_cons (sm_if (t_gt (x_ix ft (em_var 0) em_int) em_int) (bl_cons (sm_set 2 ft.nd (x_ix ft (em_var 0) em_int)) (bl_cons (sm_setIx (x_div (x_int (hd.free 39) (lm_cons (em_var 2) lm_nil)) (em_var 1)) (em_var 0) em_int) (bl_one (sm_ret (x_mod (x_int (hd.free 39) (lm_cons (em_var 2) lm_nil)) (em_var 1)))))) bl_nil) (bl_cons (sm_set 3 ft.nd (x_ix ft (em_var 0) em_int)) (bl_cons (sm_setIx (x_add ft (em_var 3) em_int) (em_var 0) em_int) (bl_cons (sm_set 4 ft.nd (x_add ft (x_mul em_int (em_var 3)) em_int)) (bl_cons (sm_if (t_ne ft (unitsOk hr) (x_ix ft (em_var 0) em_int) (em_lst lm_nil)) (bl_one (sm_set 4 ft.nd (x_ix ft (x_ix ft (em_var 0) em_int) (x_mod (x_int (hd.free 39) (lm_cons (em_var 3) lm_nil)) (x_len ft (hd.free 43) (lm_cons (x_ix ft (em_var 0) em_int) lm_nil)))))) bl_nil) (bl_cons (sm_if (wm_and (t_lt (em_var 3) (x_len ft (hd.free 43) (lm_cons (x_ix ft (em_var 0) em_int) lm_nil))) (wm_and1 (t_ge (x_abs (hd.free 44) (lm_cons (em_var 4) lm_nil)) (x_pow em_int em_int)))).pt (bl_cons (sm_set 2 ft.nd (x_add ft (x_mul em_int (x_sub (x_abs (hd.free 44) (lm_cons (em_var 4) lm_nil)) (x_pow em_int em_int))) (x_int (hd.free 39) (lm_cons (x_lt (em_var 4) em_int) lm_nil)))) (bl_cons (sm_setIx (x_div (x_int (hd.free 39) (lm_cons (em_var 2) lm_nil)) (em_var 1)) (em_var 0) em_int) (bl_one (sm_ret (x_mod (x_int (hd.free 39) (lm_cons (em_var 2) lm_nil)) (em_var 1)))))) bl_nil) (bl_cons (sm_set 5 ft.nd (x_mod (x_int (hd.free 39) (lm_cons (x_pow (x_add ft (x_add ft (x_mod (x_int (hd.free 39) (lm_cons (em_var 4) lm_nil)) em_int) (x_mul em_int (em_var 3))) em_int) em_int) lm_nil)) em_int)) (bl_cons (sm_set 5 ft.nd (x_mod (x_int (hd.free 39) (lm_cons (x_pow (x_add ft (x_add ft (x_mul (em_var 5) (x_add ft (x_mul em_int (em_var 3)) em_int)) (x_mul (x_mul em_int (em_var 3)) (em_var 3))) em_int) em_int) lm_nil)) em_int)) (bl_one (sm_ret (x_mod (x_int (hd.free 39) (lm_cons (x_div (em_var 5) em_int) lm_nil)) (em_var 1))))))))))))
theorem d__law_shot (hd : HdOk fa fn tq exs K mg base) : DefOk P w K mg base (gxOf tq K mg) 1 "_law_shot" 2 f__law_shot := by
  obtain ⟨fd, Fu⟩ := hd.df 20 (d := df20)
  exact ⟨⟨_, fd, _, o__law_shot hd Fu, hd.glo 23, Fu.kp, FunD.bindsN (ps := ["_law_lens_here", "_law_many"]) Fu (fun _ _ _ _ _ _ us hl => match us, hl with | [_, _], _ => rfl)⟩, proper_run, arity_run⟩
theorem sc__law_pick : FnScope ["_law_lens_here", "_law_some"] ["_law_lens_here", "_law_some"] (defScope s__law_pick) := C8.fnScope_by (by decide +kernel)
theorem o__law_pick {fd : FuncData} (hd : HdOk fa fn tq exs K mg base) (Fu : FunD K "_law_pick" "_law_pick" (defArgs s__law_pick) (defBody s__law_pick) (defScope s__law_pick) [] [] (He.ga K "_law_pick") fd) : FnOk P w K mg base (L2.CX P w) 2 (He.ga K "_law_pick") fd ["_law_lens_here", "_law_some"] (spM (gxOf tq K mg) 2 f__law_pick) :=
  fnD (N := ["_law_lens_here", "_law_some"]) (k := 1) (m := m__law_pick) rfl Fu sc__law_pick fun cdv A outer s H E F hc eG hr ft => by
    obtain ⟨G', Φ0, H0, Pl, rw⟩ := F; cases eG
    exact (bl_one (sm_ret (x_ix ft (em_var 1) (em_callL ft (hr.mono (by decide)) (d__law_shot hd) (lm_cons (em_var 0) (lm_cons (x_len ft (hd.free 43) (lm_cons (em_var 1) lm_nil)) lm_nil))))))
theorem d__law_pick (hd : HdOk fa fn tq exs K mg base) : DefOk P w K mg base (gxOf tq K mg) 2 "_law_pick" 2 f__law_pick := by
  obtain ⟨fd, Fu⟩ := hd.df 21 (d := df21)
  exact ⟨⟨_, fd, _, o__law_pick hd Fu, hd.glo 24, Fu.kp, FunD.bindsN (ps := ["_law_lens_here", "_law_some"]) Fu (fun _ _ _ _ _ _ us hl => match us, hl with | [_, _], _ => rfl)⟩, proper_run, arity_run⟩
theorem sc__law_changed_right : FnScope ["_law_lens_here", "_law_places_here", "_law_made", "_law_far", "_law_x", "_law_y", "_law_side", "_law_number", "_law_moved", "_law_place", "_law_shifted", "_law_scaled", "_law_back"] ["_law_lens_here", "_law_places_here"] (defScope s__law_changed_right) := C8.fnScope_by (by decide +kernel)
theorem o__law_changed_right {fd : FuncData} (hd : HdOk fa fn tq exs K mg base) (Fu : FunD K "_law_changed_right" "_law_changed_right" (defArgs s__law_changed_right) (defBody s__law_changed_right) (defScope s__law_changed_right) [] [] (He.ga K "_law_changed_right") fd) : FnOk P w K mg base (L2.CX P w) 11 (He.ga K "_law_changed_right") fd ["_law_lens_here", "_law_places_here"] (spM (gxOf tq K mg) 2 f__law_changed_right) :=
  fnD (N := ["_law_lens_here", "_law_places_here", "_law_made", "_law_far", "_law_x", "_law_y", "_law_side", "_law_number", "_law_moved", "_law_place", "_law_shifted", "_law_scaled", "_law_back"]) (k := 10) (m := m__law_changed_right) rfl Fu sc__law_changed_right fun cdv A outer s H E F hc eG hr ft => by
    obtain ⟨G', Φ0, H0, Pl, rw⟩ := F; cases eG
    exact (bl_cons (sm_asg (em_tup (lm_cons (em_make ft (hr.mono (by decide)) (mk_Picture hd) (lm_cons (em_var 1) lm_nil)) (lm_cons (em_callV ft (hr.mono (by decide)) (d__law_farthest hd) (lm_cons (em_var 1) lm_nil)) lm_nil))) (gm_tup 2 ft.K ft.calm (gsm_cons (gm_name 2 ft.nd) (gsm_cons (gm_name 3 ft.nd) gsm_nil)))) (bl_cons (sm_asg (em_comp [("_law_side", 6)] ft (im_range1 (hd.free 37) (lm_cons em_int lm_nil)) (fun s H C cl fp ft => (gm_name 6 ft.nd)) (fun s H C cl fp ft => pts_yes) (fun s H C cl fp ft => (em_callL ft (hr.mono (by decide)) (d__law_pick hd) (lm_cons (em_var 0) (lm_cons (em_lst (lm_cons em_int (lm_cons em_int (lm_cons (x_neg em_int) (lm_cons (x_sub (x_pow em_int em_int) (em_var 3)) (lm_cons (x_add ft (x_sub (x_pow em_int em_int) (em_var 3)) em_int) (lm_cons (x_sub (em_var 3) (x_pow em_int em_int)) (lm_cons (x_pow em_int em_int) (lm_cons (em_callL ft (hr.mono (by decide)) (d__law_shot hd) (lm_cons (em_var 0) (lm_cons em_int lm_nil))) lm_nil))))))))) lm_nil))))) (gm_tup 2 ft.K ft.calm (gsm_cons (gm_name 4 ft.nd) (gsm_cons (gm_name 5 ft.nd) gsm_nil)))) (bl_cons (sm_set 7 ft.nd (em_callL ft (hr.mono (by decide)) (d__law_pick hd) (lm_cons (em_var 0) (lm_cons (em_lst (lm_cons em_int (lm_cons em_int (lm_cons (x_neg em_int) (lm_cons em_int (lm_cons (x_neg em_int) (lm_cons (x_int (hd.free 39) (lm_cons (x_div (x_pow em_int em_int) (x_max2 ft (hd.free 38) (lm_cons em_int (lm_cons (em_var 3) lm_nil)))) lm_nil)) (lm_cons (x_add ft (x_int (hd.free 39) (lm_cons (x_div (x_pow em_int em_int) (x_max2 ft (hd.free 38) (lm_cons em_int (lm_cons (em_var 3) lm_nil)))) lm_nil)) em_int) (lm_cons (x_neg (x_pow em_int em_int)) lm_nil))))))))) lm_nil)))) (bl_cons (sm_setComp 8 [("_law_place", 9)] ft (im_seq ft (em_var 1)) (fun s H C cl fp ft => (gm_name 9 ft.nd)) (fun s H C cl fp ft => pts_yes) (fun s H C cl fp ft => (em_tup (lm_cons (x_add ft (x_ix ft (em_var 9) em_int) (em_var 4)) (lm_cons (x_add ft (x_ix ft (em_var 9) em_int) (em_var 5)) lm_nil))))) (bl_cons (sm_if (t_ne ft (unitsOk hr) (em_lam (k := 8) [2, 4, 5] ft (hr.mono (by decide)) (gv__law_heard hd) (tabOk hd Fu hc 0 rfl rfl (tabU hd)) rfl (by decide) (hbody := fun A outer s H E f c' F' W' eG hr ft => by obtain ⟨G', Φ0', H0', Pl', rw'⟩ := F'; cases eG; exact (em_meth ft (hr.mono (by decide)) (mo_shifted_2 hd) (em_var 2) (lm_cons (em_var 4) (lm_cons (em_var 5) lm_nil))))) (em_callV ft (hr.mono (by decide)) (d__law_due hd) (lm_cons (em_var 8) lm_nil))) (bl_one (sm_ret em_bl)) bl_nil) (bl_cons (sm_if (t_ne ft (unitsOk hr) (em_lam (k := 8) [2, 4, 5] ft (hr.mono (by decide)) (gv__law_heard hd) (tabOk hd Fu hc 0 rfl rfl (tabU hd)) rfl (by decide) (hbody := fun A outer s H E f c' F' W' eG hr ft => by obtain ⟨G', Φ0', H0', Pl', rw'⟩ := F'; cases eG; exact (em_methDK (ks := ["y", "x"]) ft (hr.mono (by decide)) (mod_shifted_0_y_x hd) (em_var 2) (km_cons (em_var 5) (km_cons (em_var 4) km_nil))))) (em_callV ft (hr.mono (by decide)) (d__law_due hd) (lm_cons (em_var 8) lm_nil))) (bl_one (sm_ret em_bl)) bl_nil) (bl_cons (sm_if (bm_val (x_isi ft (isOk hd (hd.ex 1)) (hd.free 41) (lm_cons (em_callV ft (hr.mono (by decide)) (d__law_due hd) (lm_cons (em_var 8) lm_nil)) (lm_cons (em_gty (hd.free 40)) lm_nil)))) (bl_cons (sm_set 10 ft.nd (em_meth ft (hr.mono (by decide)) (mo_shifted_2 hd) (em_var 2) (lm_cons (em_var 4) (lm_cons (em_var 5) lm_nil)))) (bl_one (sm_if (wm_or (t_ne ft (unitsOk hr) (em_fld (fldOk hd (hd.ex 2)) (em_var 10)) (em_fld (fldOk hd (hd.ex 2)) (em_var 2))) (wm_or (bm_own (neg := true) ft (hr.mono (by decide)) (mo_eq hd) (em_meth ft (hr.mono (by decide)) (mo_shifted_2 hd) (em_var 10) (lm_cons (x_neg (em_var 4)) (lm_cons (x_neg (em_var 5)) lm_nil))) (em_var 2)) (wm_or1 (bm_not (bm_val (em_callV ft (hr.mono (by decide)) (d__law_are_times hd) (lm_cons (em_var 10) (lm_cons (em_var 1) (lm_cons em_int lm_nil))))))))).pt (bl_one (sm_ret em_bl)) bl_nil))) bl_nil) (bl_cons (sm_setComp 11 [("_law_place", 9)] ft (im_seq ft (em_var 1)) (fun s H C cl fp ft => (gm_name 9 ft.nd)) (fun s H C cl fp ft => pts_yes) (fun s H C cl fp ft => (em_tup (lm_cons (x_mul (em_var 7) (x_ix ft (em_var 9) em_int)) (lm_cons (x_mul (em_var 7) (x_ix ft (em_var 9) em_int)) lm_nil))))) (bl_cons (sm_if (t_ne ft (unitsOk hr) (em_lam (k := 8) [2, 7] ft (hr.mono (by decide)) (gv__law_heard hd) (tabOk hd Fu hc 0 rfl rfl (tabU hd)) rfl (by decide) (hbody := fun A outer s H E f c' F' W' eG hr ft => by obtain ⟨G', Φ0', H0', Pl', rw'⟩ := F'; cases eG; exact (em_meth ft (hr.mono (by decide)) (mo_times_1 hd) (em_var 2) (lm_cons (em_var 7) lm_nil)))) (em_callV ft (hr.mono (by decide)) (d__law_due hd) (lm_cons (em_var 11) lm_nil))) (bl_one (sm_ret em_bl)) bl_nil) (bl_cons (sm_if (t_ne ft (unitsOk hr) (em_lam (k := 8) [2, 7] ft (hr.mono (by decide)) (gv__law_heard hd) (tabOk hd Fu hc 0 rfl rfl (tabU hd)) rfl (by decide) (hbody := fun A outer s H E f c' F' W' eG hr ft => by obtain ⟨G', Φ0', H0', Pl', rw'⟩ := F'; cases eG; exact (em_methDK (ks := ["number"]) ft (hr.mono (by decide)) (mod_times_0_number hd) (em_var 2) (km_cons (em_var 7) km_nil)))) (em_callV ft (hr.mono (by decide)) (d__law_due hd) (lm_cons (em_var 11) lm_nil))) (bl_one (sm_ret em_bl)) bl_nil) (bl_cons (sm_if (wm_and (bm_val (x_isi ft (isOk hd (hd.ex 1)) (hd.free 41) (lm_cons (em_callV ft (hr.mono (by decide)) (d__law_due hd) (lm_cons (em_var 11) lm_nil)) (lm_cons (em_gty (hd.free 40)) lm_nil)))) (wm_and1 (wm_or (bm_not (bm_val (em_callV ft (hr.mono (by decide)) (d__law_are_times hd) (lm_cons (em_meth ft (hr.mono (by decide)) (mo_times_1 hd) (em_var 2) (lm_cons (em_var 7) lm_nil)) (lm_cons (em_var 1) (lm_cons (x_mul (em_var 7) (em_var 7)) lm_nil)))))) (wm_or1 (bm_own (neg := true) ft (hr.mono (by decide)) (mo_eq hd) (em_meth ft (hr.mono (by decide)) (mo_times_1 hd) (em_var 2) (lm_cons (em_var 7) lm_nil)) (em_methD ft (hr.mono (by decide)) (mod_turned_2 hd) (em_var 2) (lm_cons (em_var 7) (lm_cons em_int lm_nil)))))).pt)).pt (bl_one (sm_ret em_bl)) bl_nil) (bl_cons (sm_set 12 ft.nd (em_meth0 ft (hr.mono (by decide)) (mo_mirrored_0 hd) (em_var 2))) (bl_cons (sm_if (wm_or (t_ne ft (unitsOk hr) (em_comp [("_law_place", 9)] ft (im_seq ft (em_fld (fldOk hd (hd.ex 3)) (em_var 12))) (fun s H C cl fp ft => (gm_name 9 ft.nd)) (fun s H C cl fp ft => pts_yes) (fun s H C cl fp ft => (x_tuple ft (hd.free 42) (lm_cons (em_var 9) lm_nil)))) (em_comp [("_law_place", 9)] ft (im_seq ft (em_var 1)) (fun s H C cl fp ft => (gm_name 9 ft.nd)) (fun s H C cl fp ft => pts_yes) (fun s H C cl fp ft => (em_tup (lm_cons (x_neg (x_ix ft (em_var 9) em_int)) (lm_cons (x_ix ft (em_var 9) em_int) lm_nil)))))) (wm_or1 (bm_not (bm_val (em_callV ft (hr.mono (by decide)) (d__law_are_times hd) (lm_cons (em_var 12) (lm_cons (em_var 1) (lm_cons em_int lm_nil)))))))).pt (bl_one (sm_ret em_bl)) bl_nil) (bl_one (sm_ret (em_and (em_own (neg := false) ft (hr.mono (by decide)) (mo_eq hd) (em_meth0 ft (hr.mono (by decide)) (mo_mirrored_0 hd) (em_var 12)) (em_var 2)) (em_one (x_eq ft (unitsOk hr) (em_comp [("_law_place", 9)] ft (im_seq ft (em_fld (fldOk hd (hd.ex 3)) (em_var 2))) (fun s H C cl fp ft => (gm_name 9 ft.nd)) (fun s H C cl fp ft => pts_yes) (fun s H C cl fp ft => (x_tuple ft (hd.free 42) (lm_cons (em_var 9) lm_nil)))) (em_var 1)))))))))))))))))))
theorem d__law_changed_right (hd : HdOk fa fn tq exs K mg base) : DefOk P w K mg base (gxOf tq K mg) 11 "_law_changed_right" 2 f__law_changed_right := by
  obtain ⟨fd, Fu⟩ := hd.df 22 (d := df22)
  exact ⟨⟨_, fd, _, o__law_changed_right hd Fu, hd.glo 34, Fu.kp, FunD.bindsN (ps := ["_law_lens_here", "_law_places_here"]) Fu (fun _ _ _ _ _ _ us hl => match us, hl with | [_, _], _ => rfl)⟩, proper_run, arity_run⟩
theorem sc__law_lens : FnScope ["_law_script", "_law_cell"] ["_law_script"] (defScope s__law_lens) := C8.fnScope_by (by decide +kernel)
theorem o__law_lens {fd : FuncData} (hd : HdOk fa fn tq exs K mg base) (Fu : FunD K "_law_lens" "_law_lens" (defArgs s__law_lens) (defBody s__law_lens) (defScope s__law_lens) [] [] (He.ga K "_law_lens") fd) : FnOk P w K mg base (L2.CX P w) 1 (He.ga K "_law_lens") fd ["_law_script"] (spM (gxOf tq K mg) 1 f__law_lens) :=
  fnD (N := ["_law_script", "_law_cell"]) (k := 0) (m := m__law_lens) rfl Fu sc__law_lens fun cdv A outer s H E F hc eG hr ft => by
    obtain ⟨G', Φ0, H0, Pl, rw⟩ := F; cases eG
    exact (bl_one (sm_ret (em_lst (lm_cons (em_comp [("_law_cell", 1)] ft (im_seq ft (em_sl ft.K (em_var 0) om_none (om_some em_int))) (fun s H C cl fp ft => (gm_name 1 ft.nd)) (fun s H C cl fp ft => pts_yes) (fun s H C cl fp ft => (x_int (hd.free 39) (lm_cons (em_var 1) lm_nil)))) (lm_cons em_int (lm_cons em_int lm_nil))))))
theorem d__law_lens (hd : HdOk fa fn tq exs K mg base) : DefOk P w K mg base (gxOf tq K mg) 1 "_law_lens" 1 f__law_lens := by
  obtain ⟨fd, Fu⟩ := hd.df 23 (d := df23)
  exact ⟨⟨_, fd, _, o__law_lens hd Fu, hd.glo 22, Fu.kp, FunD.bindsN (ps := ["_law_script"]) Fu (fun _ _ _ _ _ _ us hl => match us, hl with | [_], _ => rfl)⟩, proper_run, arity_run⟩
theorem sc__law_places : FnScope ["_law_lens_here", "_law_pins", "_law_most", "_law_pin"] ["_law_lens_here"] (defScope s__law_places) := C8.fnScope_by (by decide +kernel)
theorem o__law_places {fd : FuncData} (hd : HdOk fa fn tq exs K mg base) (Fu : FunD K "_law_places" "_law_places" (defArgs s__law_places) (defBody s__law_places) (defScope s__law_places) [] [] (He.ga K "_law_places") fd) : FnOk P w K mg base (L2.CX P w) 3 (He.ga K "_law_places") fd ["_law_lens_here"] (spM (gxOf tq K mg) 1 f__law_places) :=
  fnD (N := ["_law_lens_here", "_law_pins", "_law_most", "_law_pin"]) (k := 2) (m := m__law_places) rfl Fu sc__law_places fun cdv A outer s H E F hc eG hr ft => by
    obtain ⟨G', Φ0, H0, Pl, rw⟩ := F; cases eG
    exact (bl_cons (sm_asg (em_tup (lm_cons (x_add ft em_int (em_callL ft (hr.mono (by decide)) (d__law_shot hd) (lm_cons (em_var 0) (lm_cons em_int lm_nil)))) (lm_cons (em_callL ft (hr.mono (by decide)) (d__law_pick hd) (lm_cons (em_var 0) (lm_cons (em_lst (lm_cons em_int (lm_cons em_int (lm_cons em_int (lm_cons em_int (lm_cons (x_pow em_int em_int) lm_nil)))))) lm_nil))) lm_nil))) (gm_tup 2 ft.K ft.calm (gsm_cons (gm_name 1 ft.nd) (gsm_cons (gm_name 2 ft.nd) gsm_nil)))) (bl_one (sm_ret (em_comp [("_law_pin", 3)] ft (im_range1 (hd.free 37) (lm_cons (em_var 1) lm_nil)) (fun s H C cl fp ft => (gm_name 3 ft.nd)) (fun s H C cl fp ft => pts_yes) (fun s H C cl fp ft => (em_tup (lm_cons (x_sub (em_callL ft (hr.mono (by decide)) (d__law_shot hd) (lm_cons (em_var 0) (lm_cons (x_add ft (x_mul em_int (em_var 2)) em_int) lm_nil))) (em_var 2)) (lm_cons (x_sub (em_callL ft (hr.mono (by decide)) (d__law_shot hd) (lm_cons (em_var 0) (lm_cons (x_add ft (x_mul em_int (em_var 2)) em_int) lm_nil))) (em_var 2)) lm_nil))))))))
theorem d__law_places (hd : HdOk fa fn tq exs K mg base) : DefOk P w K mg base (gxOf tq K mg) 3 "_law_places" 1 f__law_places := by
  obtain ⟨fd, Fu⟩ := hd.df 24 (d := df24)
  exact ⟨⟨_, fd, _, o__law_places hd Fu, hd.glo 25, Fu.kp, FunD.bindsN (ps := ["_law_lens_here"]) Fu (fun _ _ _ _ _ _ us hl => match us, hl with | [_], _ => rfl)⟩, proper_run, arity_run⟩
theorem sc__law_refused_right : FnScope ["_law_lens_here", "_law_places_here", "_law_made", "_law_odd", "_law_none", "_law_far", "_law_heard_here", "_law_due_here"] ["_law_lens_here", "_law_places_here"] (defScope s__law_refused_right) := C8.fnScope_by (by decide +kernel)
theorem o__law_refused_right {fd : FuncData} (hd : HdOk fa fn tq exs K mg base) (Fu : FunD K "_law_refused_right" "_law_refused_right" (defArgs s__law_refused_right) (defBody s__law_refused_right) (defScope s__law_refused_right) [] [] (He.ga K "_law_refused_right") fd) : FnOk P w K mg base (L2.CX P w) 11 (He.ga K "_law_refused_right") fd ["_law_lens_here", "_law_places_here"] (spM (gxOf tq K mg) 2 f__law_refused_right) :=
  fnD (N := ["_law_lens_here", "_law_places_here", "_law_made", "_law_odd", "_law_none", "_law_far", "_law_heard_here", "_law_due_here"]) (k := 10) (m := m__law_refused_right) rfl Fu sc__law_refused_right fun cdv A outer s H E F hc eG hr ft => by
    obtain ⟨G', Φ0, H0, Pl, rw⟩ := F; cases eG
    exact (bl_cons (sm_asg (em_tup (lm_cons (em_make ft (hr.mono (by decide)) (mk_Picture hd) (lm_cons (em_var 1) lm_nil)) (lm_cons (em_callL ft (hr.mono (by decide)) (d__law_pick hd) (lm_cons (em_var 0) (lm_cons (em_lst (lm_cons em_non (lm_cons em_bl (lm_cons em_bl (lm_cons em_str (lm_cons (em_tup (lm_cons em_int lm_nil)) (lm_cons (em_lst (lm_cons em_int lm_nil)) (lm_cons em_dic (lm_cons (em_tup (lm_cons em_int (lm_cons em_int lm_nil))) lm_nil))))))))) lm_nil))) lm_nil))) (gm_tup 2 ft.K ft.calm (gsm_cons (gm_name 2 ft.nd) (gsm_cons (gm_name 3 ft.nd) gsm_nil)))) (bl_cons (sm_asg (em_tup (lm_cons (em_callL ft (hr.mono (by decide)) (d__law_pick hd) (lm_cons (em_var 0) (lm_cons (em_lst (lm_cons em_str (lm_cons em_non (lm_cons em_bl (lm_cons (em_lst lm_nil) (lm_cons (em_tup (lm_cons em_int (lm_cons em_int lm_nil))) lm_nil)))))) lm_nil))) (lm_cons (em_make ft (hr.mono (by decide)) (mk_Picture hd) (lm_cons (em_lst (lm_cons (em_tup (lm_cons (x_pow em_int em_int) (lm_cons em_int lm_nil))) (lm_cons (em_tup (lm_cons em_int (lm_cons (x_neg (x_pow em_int em_int)) lm_nil))) (lm_cons (em_tup (lm_cons em_int (lm_cons em_int lm_nil))) (lm_cons (em_tup (lm_cons em_int (lm_cons em_int lm_nil))) lm_nil))))) lm_nil)) lm_nil))) (gm_tup 2 ft.K ft.calm (gsm_cons (gm_name 4 ft.nd) (gsm_cons (gm_name 5 ft.nd) gsm_nil)))) (bl_cons (sm_set 6 ft.nd (em_lst (lm_cons (em_lam (k := 8) [2, 3, 4] ft (hr.mono (by decide)) (gv__law_heard hd) (tabOk hd Fu hc 1 rfl rfl (tabU hd)) rfl (by decide) (hbody := fun A outer s H E f c' F' W' eG hr ft => by obtain ⟨G', Φ0', H0', Pl', rw'⟩ := F'; cases eG; exact (em_methD ft (hr.mono (by decide)) (mod_turned_2 hd) (em_var 2) (lm_cons (em_var 3) (lm_cons (em_var 4) lm_nil))))) lm_nil))) (bl_cons (sm_expr (em_append (em_var 6) (lm_cons (em_lam (k := 8) [2, 4] ft (hr.mono (by decide)) (gv__law_heard hd) (tabOk hd Fu hc 1 rfl rfl (tabU hd)) rfl (by decide) (hbody := fun A outer s H E f c' F' W' eG hr ft => by obtain ⟨G', Φ0', H0', Pl', rw'⟩ := F'; cases eG; exact (em_methD ft (hr.mono (by decide)) (mod_turned_2 hd) (em_var 2) (lm_cons em_int (lm_cons (em_var 4) lm_nil))))) lm_nil))) (bl_cons (sm_expr (em_append (em_var 6) (lm_cons (em_lam (k := 8) [2, 3] ft (hr.mono (by decide)) (gv__law_heard hd) (tabOk hd Fu hc 1 rfl rfl (tabU hd)) rfl (by decide) (hbody := fun A outer s H E f c' F' W' eG hr ft => by obtain ⟨G', Φ0', H0', Pl', rw'⟩ := F'; cases eG; exact (em_methDK (ks := ["y"]) ft (hr.mono (by decide)) (mod_turned_0_y hd) (em_var 2) (km_cons (em_var 3) km_nil)))) lm_nil))) (bl_cons (sm_set 7 ft.nd (em_lst (lm_cons (em_tup (lm_cons em_str (lm_cons em_str lm_nil))) (lm_cons (em_tup (lm_cons em_str (lm_cons em_str lm_nil))) (lm_cons (em_tup (lm_cons em_str (lm_cons em_str lm_nil))) lm_nil))))) (bl_cons (sm_expr (em_append (em_var 6) (lm_cons (em_lam (k := 8) [2, 3, 4] ft (hr.mono (by decide)) (gv__law_heard hd) (tabOk hd Fu hc 1 rfl rfl (tabU hd)) rfl (by decide) (hbody := fun A outer s H E f c' F' W' eG hr ft => by obtain ⟨G', Φ0', H0', Pl', rw'⟩ := F'; cases eG; exact (em_meth ft (hr.mono (by decide)) (mo_shifted_2 hd) (em_var 2) (lm_cons (em_var 3) (lm_cons (em_var 4) lm_nil))))) lm_nil))) (bl_cons (sm_expr (em_append (em_var 6) (lm_cons (em_lam (k := 8) [4, 5] ft (hr.mono (by decide)) (gv__law_heard hd) (tabOk hd Fu hc 1 rfl rfl (tabU hd)) rfl (by decide) (hbody := fun A outer s H E f c' F' W' eG hr ft => by obtain ⟨G', Φ0', H0', Pl', rw'⟩ := F'; cases eG; exact (em_meth ft (hr.mono (by decide)) (mo_shifted_2 hd) (em_var 5) (lm_cons em_int (lm_cons (em_var 4) lm_nil))))) lm_nil))) (bl_cons (sm_expr (em_append (em_var 6) (lm_cons (em_lam (k := 8) [3, 5] ft (hr.mono (by decide)) (gv__law_heard hd) (tabOk hd Fu hc 1 rfl rfl (tabU hd)) rfl (by decide) (hbody := fun A outer s H E f c' F' W' eG hr ft => by obtain ⟨G', Φ0', H0', Pl', rw'⟩ := F'; cases eG; exact (em_methD ft (hr.mono (by decide)) (mod_turned_2 hd) (em_var 5) (lm_cons em_int (lm_cons (em_var 3) lm_nil))))) lm_nil))) (bl_cons (sm_set 7 ft.nd (x_add ft (em_var 7) (em_lst (lm_cons (em_tup (lm_cons em_str (lm_cons em_str lm_nil))) (lm_cons (em_tup (lm_cons em_str (lm_cons em_str lm_nil))) (lm_cons (em_tup (lm_cons em_str (lm_cons em_str lm_nil))) lm_nil)))))) (bl_cons (sm_expr (em_append (em_var 6) (lm_cons (em_lam (k := 8) [2, 3] ft (hr.mono (by decide)) (gv__law_heard hd) (tabOk hd Fu hc 1 rfl rfl (tabU hd)) rfl (by decide) (hbody := fun A outer s H E f c' F' W' eG hr ft => by obtain ⟨G', Φ0', H0', Pl', rw'⟩ := F'; cases eG; exact (em_meth ft (hr.mono (by decide)) (mo_times_1 hd) (em_var 2) (lm_cons (em_var 3) lm_nil)))) lm_nil))) (bl_cons (sm_expr (em_append (em_var 6) (lm_cons (em_lam (k := 8) [5] ft (hr.mono (by decide)) (gv__law_heard hd) (tabOk hd Fu hc 1 rfl rfl (tabU hd)) rfl (by decide) (hbody := fun A outer s H E f c' F' W' eG hr ft => by obtain ⟨G', Φ0', H0', Pl', rw'⟩ := F'; cases eG; exact (em_meth ft (hr.mono (by decide)) (mo_shifted_2 hd) (em_var 5) (lm_cons em_int (lm_cons em_int lm_nil))))) lm_nil))) (bl_cons (sm_expr (em_append (em_var 6) (lm_cons (em_lam (k := 8) [5] ft (hr.mono (by decide)) (gv__law_heard hd) (tabOk hd Fu hc 1 rfl rfl (tabU hd)) rfl (by decide) (hbody := fun A outer s H E f c' F' W' eG hr ft => by obtain ⟨G', Φ0', H0', Pl', rw'⟩ := F'; cases eG; exact (em_meth ft (hr.mono (by decide)) (mo_shifted_2 hd) (em_var 5) (lm_cons em_int (lm_cons (x_neg em_int) lm_nil))))) lm_nil))) (bl_cons (sm_set 7 ft.nd (x_add ft (em_var 7) (em_lst (lm_cons (em_tup (lm_cons em_str (lm_cons em_str lm_nil))) (lm_cons (em_tup (lm_cons em_str (lm_cons (x_pow em_int em_int) lm_nil))) (lm_cons (em_tup (lm_cons em_str (lm_cons (x_pow em_int em_int) lm_nil))) lm_nil)))))) (bl_cons (sm_expr (em_append (em_var 6) (lm_cons (em_lam (k := 8) [5] ft (hr.mono (by decide)) (gv__law_heard hd) (tabOk hd Fu hc 1 rfl rfl (tabU hd)) rfl (by decide) (hbody := fun A outer s H E f c' F' W' eG hr ft => by obtain ⟨G', Φ0', H0', Pl', rw'⟩ := F'; cases eG; exact (em_methD ft (hr.mono (by decide)) (mod_turned_2 hd) (em_var 5) (lm_cons em_int (lm_cons em_int lm_nil))))) lm_nil))) (bl_cons (sm_expr (em_append (em_var 6) (lm_cons (em_lam (k := 8) [5] ft (hr.mono (by decide)) (gv__law_heard hd) (tabOk hd Fu hc 1 rfl rfl (tabU hd)) rfl (by decide) (hbody := fun A outer s H E f c' F' W' eG hr ft => by obtain ⟨G', Φ0', H0', Pl', rw'⟩ := F'; cases eG; exact (em_meth ft (hr.mono (by decide)) (mo_times_1 hd) (em_var 5) (lm_cons (x_neg em_int) lm_nil)))) lm_nil))) (bl_cons (sm_expr (em_append (em_var 6) (lm_cons (em_lam (k := 8) [5] ft (hr.mono (by decide)) (gv__law_heard hd) (tabOk hd Fu hc 1 rfl rfl (tabU hd)) rfl (by decide) (hbody := fun A outer s H E f c' F' W' eG hr ft => by obtain ⟨G', Φ0', H0', Pl', rw'⟩ := F'; cases eG; exact (em_meth ft (hr.mono (by decide)) (mo_times_1 hd) (em_var 5) (lm_cons (x_neg em_int) lm_nil)))) lm_nil))) (bl_one (sm_ret (x_eq ft (unitsOk hr) (em_var 6) (x_add ft (em_var 7) (em_lst (lm_cons (em_tup (lm_cons em_str (lm_cons (x_pow em_int em_int) lm_nil))) (lm_cons (em_tup (lm_cons em_str (lm_cons (x_pow em_int em_int) lm_nil))) (lm_cons (em_lst (lm_cons (em_tup (lm_cons (x_neg (x_pow em_int em_int)) (lm_cons em_int lm_nil))) (lm_cons (em_tup (lm_cons em_int (lm_cons (x_pow em_int em_int) lm_nil))) (lm_cons (em_tup (lm_cons (x_neg em_int) (lm_cons (x_neg em_int) lm_nil))) (lm_cons (em_tup (lm_cons (x_neg em_int) (lm_cons (x_neg em_int) lm_nil))) lm_nil))))) lm_nil)))))))))))))))))))))))))
theorem d__law_refused_right (hd : HdOk fa fn tq exs K mg base) : DefOk P w K mg base (gxOf tq K mg) 11 "_law_refused_right" 2 f__law_refused_right := by
  obtain ⟨fd, Fu⟩ := hd.df 25 (d := df25)
  exact ⟨⟨_, fd, _, o__law_refused_right hd Fu, hd.glo 35, Fu.kp, FunD.bindsN (ps := ["_law_lens_here", "_law_places_here"]) Fu (fun _ _ _ _ _ _ us hl => match us, hl with | [_, _], _ => rfl)⟩, proper_run, arity_run⟩
theorem sc__law_at : FnScope ["_law_places_here", "_law_x", "_law_y", "_law_place"] ["_law_places_here", "_law_x", "_law_y"] (defScope s__law_at) := C8.fnScope_by (by decide +kernel)
theorem o__law_at {fd : FuncData} (hd : HdOk fa fn tq exs K mg base) (Fu : FunD K "_law_at" "_law_at" (defArgs s__law_at) (defBody s__law_at) (defScope s__law_at) [] [] (He.ga K "_law_at") fd) : FnOk P w K mg base (L2.CX P w) 1 (He.ga K "_law_at") fd ["_law_places_here", "_law_x", "_law_y"] (spM (gxOf tq K mg) 3 f__law_at) :=
  fnD (N := ["_law_places_here", "_law_x", "_law_y", "_law_place"]) (k := 0) (m := m__law_at) rfl Fu sc__law_at fun cdv A outer s H E F hc eG hr ft => by
    obtain ⟨G', Φ0, H0, Pl, rw⟩ := F; cases eG
    exact (bl_one (sm_ret (em_comp [("_law_place", 3)] ft (im_seq ft (em_var 0)) (fun s H C cl fp ft => (gm_name 3 ft.nd)) (fun s H C cl fp ft => pts_yes) (fun s H C cl fp ft => (em_tup (lm_cons (x_sub (x_mul (em_var 1) (x_ix ft (em_var 3) em_int)) (x_mul (em_var 2) (x_ix ft (em_var 3) em_int))) (lm_cons (x_add ft (x_mul (em_var 2) (x_ix ft (em_var 3) em_int)) (x_mul (em_var 1) (x_ix ft (em_var 3) em_int))) lm_nil)))))))
theorem d__law_at (hd : HdOk fa fn tq exs K mg base) : DefOk P w K mg base (gxOf tq K mg) 1 "_law_at" 3 f__law_at := by
  obtain ⟨fd, Fu⟩ := hd.df 26 (d := df26)
  exact ⟨⟨_, fd, _, o__law_at hd Fu, hd.glo 27, Fu.kp, FunD.bindsN (ps := ["_law_places_here", "_law_x", "_law_y"]) Fu (fun _ _ _ _ _ _ us hl => match us, hl with | [_, _, _], _ => rfl)⟩, proper_run, arity_run⟩
theorem sc__law_two : FnScope ["_law_lens_here", "_law_way"] ["_law_lens_here"] (defScope s__law_two) := C8.fnScope_by (by decide +kernel)
theorem o__law_two {fd : FuncData} (hd : HdOk fa fn tq exs K mg base) (Fu : FunD K "_law_two" "_law_two" (defArgs s__law_two) (defBody s__law_two) (defScope s__law_two) [] [] (He.ga K "_law_two") fd) : FnOk P w K mg base (L2.CX P w) 3 (He.ga K "_law_two") fd ["_law_lens_here"] (spM (gxOf tq K mg) 1 f__law_two) :=
  fnD (N := ["_law_lens_here", "_law_way"]) (k := 2) (m := m__law_two) rfl Fu sc__law_two fun cdv A outer s H E F hc eG hr ft => by
    obtain ⟨G', Φ0, H0, Pl, rw⟩ := F; cases eG
    exact (bl_cons (sm_set 1 ft.nd (em_callL ft (hr.mono (by decide)) (d__law_shot hd) (lm_cons (em_var 0) (lm_cons em_int lm_nil)))) (bl_cons (sm_if (t_lt (em_var 1) em_int) (bl_one (sm_ret (em_tup (lm_cons (x_sub (em_callL ft (hr.mono (by decide)) (d__law_shot hd) (lm_cons (em_var 0) (lm_cons em_int lm_nil))) em_int) (lm_cons (x_sub (em_callL ft (hr.mono (by decide)) (d__law_shot hd) (lm_cons (em_var 0) (lm_cons em_int lm_nil))) em_int) lm_nil))))) bl_nil) (bl_cons (sm_if (t_eq ft (unitsOk hr) (em_var 1) em_int) (bl_one (sm_ret (em_callL ft (hr.mono (by decide)) (d__law_pick hd) (lm_cons (em_var 0) (lm_cons (em_lst (lm_cons (em_tup (lm_cons em_int (lm_cons em_int lm_nil))) (lm_cons (em_tup (lm_cons (x_neg em_int) (lm_cons em_int lm_nil))) (lm_cons (em_tup (lm_cons em_int (lm_cons (x_neg em_int) lm_nil))) (lm_cons (em_tup (lm_cons em_int (lm_cons (x_neg em_int) lm_nil))) (lm_cons (em_tup (lm_cons (x_neg em_int) (lm_cons em_int lm_nil))) (lm_cons (em_tup (lm_cons em_int (lm_cons em_int lm_nil))) lm_nil))))))) lm_nil))))) bl_nil) (bl_one (sm_ret (em_if (t_eq ft (unitsOk hr) (em_var 1) em_int) (em_tup (lm_cons em_int (lm_cons em_int lm_nil))) (em_tup (lm_cons (x_sub (em_callL ft (hr.mono (by decide)) (d__law_shot hd) (lm_cons (em_var 0) (lm_cons em_int lm_nil))) em_int) (lm_cons (x_sub (em_callL ft (hr.mono (by decide)) (d__law_shot hd) (lm_cons (em_var 0) (lm_cons em_int lm_nil))) em_int) lm_nil)))))))))
theorem d__law_two (hd : HdOk fa fn tq exs K mg base) : DefOk P w K mg base (gxOf tq K mg) 3 "_law_two" 1 f__law_two := by
  obtain ⟨fd, Fu⟩ := hd.df 27 (d := df27)
  exact ⟨⟨_, fd, _, o__law_two hd Fu, hd.glo 26, Fu.kp, FunD.bindsN (ps := ["_law_lens_here"]) Fu (fun _ _ _ _ _ _ us hl => match us, hl with | [_], _ => rfl)⟩, proper_run, arity_run⟩
theorem sc__law_turned_right : FnScope ["_law_lens_here", "_law_places_here", "_law_made", "_law_x", "_law_y", "_law_u", "_law_v", "_law_once", "_law_due_here", "_law_turned", "_law_back", "_law_place"] ["_law_lens_here", "_law_places_here"] (defScope s__law_turned_right) := C8.fnScope_by (by decide +kernel)
theorem o__law_turned_right {fd : FuncData} (hd : HdOk fa fn tq exs K mg base) (Fu : FunD K "_law_turned_right" "_law_turned_right" (defArgs s__law_turned_right) (defBody s__law_turned_right) (defScope s__law_turned_right) [] [] (He.ga K "_law_turned_right") fd) : FnOk P w K mg base (L2.CX P w) 11 (He.ga K "_law_turned_right") fd ["_law_lens_here", "_law_places_here"] (spM (gxOf tq K mg) 2 f__law_turned_right) :=
  fnD (N := ["_law_lens_here", "_law_places_here", "_law_made", "_law_x", "_law_y", "_law_u", "_law_v", "_law_once", "_law_due_here", "_law_turned", "_law_back", "_law_place"]) (k := 10) (m := m__law_turned_right) rfl Fu sc__law_turned_right fun cdv A outer s H E F hc eG hr ft => by
    obtain ⟨G', Φ0, H0, Pl, rw⟩ := F; cases eG
    exact (bl_cons (sm_set 2 ft.nd (em_make ft (hr.mono (by decide)) (mk_Picture hd) (lm_cons (em_var 1) lm_nil))) (bl_cons (sm_asg (em_callL ft (hr.mono (by decide)) (d__law_two hd) (lm_cons (em_var 0) lm_nil)) (gm_tup 2 ft.K ft.calm (gsm_cons (gm_name 3 ft.nd) (gsm_cons (gm_name 4 ft.nd) gsm_nil)))) (bl_cons (sm_asg (em_callL ft (hr.mono (by decide)) (d__law_two hd) (lm_cons (em_var 0) lm_nil)) (gm_tup 2 ft.K ft.calm (gsm_cons (gm_name 5 ft.nd) (gsm_cons (gm_name 6 ft.nd) gsm_nil)))) (bl_cons (sm_par 7 8 ft.calm ft.nd (lm_cons (em_lam (k := 8) [2, 3, 4] ft (hr.mono (by decide)) (gv__law_heard hd) (tabOk hd Fu hc 2 rfl rfl (tabU hd)) rfl (by decide) (hbody := fun A outer s H E f c' F' W' eG hr ft => by obtain ⟨G', Φ0', H0', Pl', rw'⟩ := F'; cases eG; exact (em_methD ft (hr.mono (by decide)) (mod_turned_2 hd) (em_var 2) (lm_cons (em_var 3) (lm_cons (em_var 4) lm_nil))))) (lm_cons (em_callV ft (hr.mono (by decide)) (d__law_due hd) (lm_cons (em_callV ft (hr.mono (by decide)) (d__law_at hd) (lm_cons (em_var 1) (lm_cons (em_var 3) (lm_cons (em_var 4) lm_nil)))) lm_nil)) lm_nil))) (bl_cons (sm_if (wm_or (t_ne ft (unitsOk hr) (em_var 7) (em_var 8)) (wm_or1 (t_ne ft (unitsOk hr) (em_lam (k := 8) [2, 3, 4] ft (hr.mono (by decide)) (gv__law_heard hd) (tabOk hd Fu hc 2 rfl rfl (tabU hd)) rfl (by decide) (hbody := fun A outer s H E f c' F' W' eG hr ft => by obtain ⟨G', Φ0', H0', Pl', rw'⟩ := F'; cases eG; exact (em_methDK (ks := ["y", "x"]) ft (hr.mono (by decide)) (mod_turned_0_y_x hd) (em_var 2) (km_cons (em_var 4) (km_cons (em_var 3) km_nil))))) (em_var 8)))).pt (bl_one (sm_ret em_bl)) bl_nil) (bl_cons (sm_if (t_ne ft (unitsOk hr) (em_lam (k := 8) [2, 3] ft (hr.mono (by decide)) (gv__law_heard hd) (tabOk hd Fu hc 2 rfl rfl (tabU hd)) rfl (by decide) (hbody := fun A outer s H E f c' F' W' eG hr ft => by obtain ⟨G', Φ0', H0', Pl', rw'⟩ := F'; cases eG; exact (em_methD ft (hr.mono (by decide)) (mod_turned_1 hd) (em_var 2) (lm_cons (em_var 3) lm_nil)))) (em_callV ft (hr.mono (by decide)) (d__law_due hd) (lm_cons (em_callV ft (hr.mono (by decide)) (d__law_at hd) (lm_cons (em_var 1) (lm_cons (em_var 3) (lm_cons em_int lm_nil)))) lm_nil))) (bl_one (sm_ret em_bl)) bl_nil) (bl_cons (sm_if (wm_or (t_ne ft (unitsOk hr) (em_lam (k := 8) [2, 6] ft (hr.mono (by decide)) (gv__law_heard hd) (tabOk hd Fu hc 2 rfl rfl (tabU hd)) rfl (by decide) (hbody := fun A outer s H E f c' F' W' eG hr ft => by obtain ⟨G', Φ0', H0', Pl', rw'⟩ := F'; cases eG; exact (em_methDK (ks := ["y"]) ft (hr.mono (by decide)) (mod_turned_0_y hd) (em_var 2) (km_cons (em_var 6) km_nil)))) (em_callV ft (hr.mono (by decide)) (d__law_due hd) (lm_cons (em_callV ft (hr.mono (by decide)) (d__law_at hd) (lm_cons (em_var 1) (lm_cons em_int (lm_cons (em_var 6) lm_nil)))) lm_nil))) (wm_or1 (bm_own (neg := true) ft (hr.mono (by decide)) (mo_eq hd) (em_methD0 ft (hr.mono (by decide)) (mod_turned_0 hd) (em_var 2)) (em_make ft (hr.mono (by decide)) (mk_Picture hd) (lm_cons (em_callV ft (hr.mono (by decide)) (d__law_at hd) (lm_cons (em_var 1) (lm_cons em_int (lm_cons em_int lm_nil)))) lm_nil))))).pt (bl_one (sm_ret em_bl)) bl_nil) (bl_cons (sm_if (bm_val (x_isi ft (isOk hd (hd.ex 1)) (hd.free 41) (lm_cons (em_var 7) (lm_cons (em_gty (hd.free 40)) lm_nil)))) (bl_cons (sm_set 9 ft.nd (em_methD ft (hr.mono (by decide)) (mod_turned_2 hd) (em_var 2) (lm_cons (em_var 3) (lm_cons (em_var 4) lm_nil)))) (bl_cons (sm_if (wm_or (bm_not (bm_val (em_callV ft (hr.mono (by decide)) (d__law_are_times hd) (lm_cons (em_var 9) (lm_cons (em_var 1) (lm_cons (x_add ft (x_mul (em_var 3) (em_var 3)) (x_mul (em_var 4) (em_var 4))) lm_nil)))))) (wm_or1 (t_ne ft (unitsOk hr) (em_lam (k := 8) [5, 6, 9] ft (hr.mono (by decide)) (gv__law_heard hd) (tabOk hd Fu hc 2 rfl rfl (tabU hd)) rfl (by decide) (hbody := fun A outer s H E f c' F' W' eG hr ft => by obtain ⟨G', Φ0', H0', Pl', rw'⟩ := F'; cases eG; exact (em_methD ft (hr.mono (by decide)) (mod_turned_2 hd) (em_var 9) (lm_cons (em_var 5) (lm_cons (em_var 6) lm_nil))))) (em_callV ft (hr.mono (by decide)) (d__law_due hd) (lm_cons (em_callV ft (hr.mono (by decide)) (d__law_at hd) (lm_cons (em_var 7) (lm_cons (em_var 5) (lm_cons (em_var 6) lm_nil)))) lm_nil))))).pt (bl_one (sm_ret em_bl)) bl_nil) (bl_one (sm_if (t_ne ft (unitsOk hr) (em_lam (k := 8) [2, 3, 4, 5, 6] ft (hr.mono (by decide)) (gv__law_heard hd) (tabOk hd Fu hc 2 rfl rfl (tabU hd)) rfl (by decide) (hbody := fun A outer s H E f c' F' W' eG hr ft => by obtain ⟨G', Φ0', H0', Pl', rw'⟩ := F'; cases eG; exact (em_methD ft (hr.mono (by decide)) (mod_turned_2 hd) (em_var 2) (lm_cons (x_sub (x_mul (em_var 3) (em_var 5)) (x_mul (em_var 4) (em_var 6))) (lm_cons (x_add ft (x_mul (em_var 3) (em_var 6)) (x_mul (em_var 4) (em_var 5))) lm_nil))))) (em_callV ft (hr.mono (by decide)) (d__law_due hd) (lm_cons (em_callV ft (hr.mono (by decide)) (d__law_at hd) (lm_cons (em_var 7) (lm_cons (em_var 5) (lm_cons (em_var 6) lm_nil)))) lm_nil))) (bl_one (sm_ret em_bl)) bl_nil)))) bl_nil) (bl_cons (sm_set 10 ft.nd (em_callV ft (hr.mono (by decide)) (d__law_due hd) (lm_cons (em_callV ft (hr.mono (by decide)) (d__law_at hd) (lm_cons (em_comp [("_law_place", 11)] ft (im_seq ft (em_var 1)) (fun s H C cl fp ft => (gm_name 11 ft.nd)) (fun s H C cl fp ft => pts_yes) (fun s H C cl fp ft => (em_tup (lm_cons (x_neg (x_ix ft (em_var 11) em_int)) (lm_cons (x_ix ft (em_var 11) em_int) lm_nil))))) (lm_cons (em_var 3) (lm_cons (em_var 4) lm_nil)))) lm_nil))) (bl_cons (sm_if (t_ne ft (unitsOk hr) (em_lam (k := 8) [2, 3, 4] ft (hr.mono (by decide)) (gv__law_heard hd) (tabOk hd Fu hc 2 rfl rfl (tabU hd)) rfl (by decide) (hbody := fun A outer s H E f c' F' W' eG hr ft => by obtain ⟨G', Φ0', H0', Pl', rw'⟩ := F'; cases eG; exact (em_methD ft (hr.mono (by decide)) (mod_turned_2 hd) (em_meth0 ft (hr.mono (by decide)) (mo_mirrored_0 hd) (em_var 2)) (lm_cons (em_var 3) (lm_cons (em_var 4) lm_nil))))) (em_var 10)) (bl_one (sm_ret em_bl)) bl_nil) (bl_cons (sm_if (t_ne ft (unitsOk hr) (em_lam (k := 8) [2, 3, 4] ft (hr.mono (by decide)) (gv__law_heard hd) (tabOk hd Fu hc 2 rfl rfl (tabU hd)) rfl (by decide) (hbody := fun A outer s H E f c' F' W' eG hr ft => by obtain ⟨G', Φ0', H0', Pl', rw'⟩ := F'; cases eG; exact (em_meth0 ft (hr.mono (by decide)) (mo_mirrored_0 hd) (em_methD ft (hr.mono (by decide)) (mod_turned_2 hd) (em_var 2) (lm_cons (em_var 3) (lm_cons (x_neg (em_var 4)) lm_nil)))))) (em_var 10)) (bl_one (sm_ret em_bl)) bl_nil) (bl_one (sm_ret (em_and (em_own (neg := false) ft (hr.mono (by decide)) (mo_eq hd) (em_methD ft (hr.mono (by decide)) (mod_turned_1 hd) (em_methDK (ks := ["y"]) ft (hr.mono (by decide)) (mod_turned_0_y hd) (em_methD ft (hr.mono (by decide)) (mod_turned_2 hd) (em_methD0 ft (hr.mono (by decide)) (mod_turned_0 hd) (em_var 2)) (lm_cons em_int (lm_cons em_int lm_nil))) (km_cons em_int km_nil)) (lm_cons em_int lm_nil)) (em_var 2)) (em_one (x_eq ft (unitsOk hr) (em_comp [("_law_place", 11)] ft (im_seq ft (em_fld (fldOk hd (hd.ex 3)) (em_var 2))) (fun s H C cl fp ft => (gm_name 11 ft.nd)) (fun s H C cl fp ft => pts_yes) (fun s H C cl fp ft => (x_tuple ft (hd.free 42) (lm_cons (em_var 11) lm_nil)))) (em_var 1)))))))))))))))))
theorem d__law_turned_right (hd : HdOk fa fn tq exs K mg base) : DefOk P w K mg base (gxOf tq K mg) 11 "_law_turned_right" 2 f__law_turned_right := by
  obtain ⟨fd, Fu⟩ := hd.df 28 (d := df28)
  exact ⟨⟨_, fd, _, o__law_turned_right hd Fu, hd.glo 33, Fu.kp, FunD.bindsN (ps := ["_law_lens_here", "_law_places_here"]) Fu (fun _ _ _ _ _ _ us hl => match us, hl with | [_, _], _ => rfl)⟩, proper_run, arity_run⟩
theorem sc_law : FnScope ["_law_script", "_law_lens_here", "_law_turn", "_law_places_here"] ["_law_script"] (defScope s_law) := C8.fnScope_by (by decide +kernel)
theorem o_law {fd : FuncData} (hd : HdOk fa fn tq exs K mg base) (Fu : FunD K "law" "law" (defArgs s_law) (defBody s_law) (defScope s_law) [] [] (He.ga K "law") fd) : FnOk P w K mg base (L2.CX P w) 12 (He.ga K "law") fd ["_law_script"] (spM (gxOf tq K mg) 1 f_law) :=
  fnD (N := ["_law_script", "_law_lens_here", "_law_turn", "_law_places_here"]) (k := 11) (m := m_law) rfl Fu sc_law fun cdv A outer s H E F hc eG hr ft => by
    obtain ⟨G', Φ0, H0, Pl, rw⟩ := F; cases eG
    exact (bl_cons (sm_set 1 ft.nd (em_callV ft (hr.mono (by decide)) (d__law_lens hd) (lm_cons (em_var 0) lm_nil))) (bl_cons (sm_for ft (im_range1 (hd.free 37) (lm_cons em_int lm_nil)) (gm_name 2 ft.nd) (bl_cons (sm_set 3 ft.nd (em_callL ft (hr.mono (by decide)) (d__law_places hd) (lm_cons (em_var 1) lm_nil))) (bl_one (sm_if (wm_or (bm_not (bm_val (em_callL ft (hr.mono (by decide)) (d__law_turned_right hd) (lm_cons (em_var 1) (lm_cons (em_var 3) lm_nil))))) (wm_or (bm_not (bm_val (em_callL ft (hr.mono (by decide)) (d__law_changed_right hd) (lm_cons (em_var 1) (lm_cons (em_var 3) lm_nil))))) (wm_or1 (bm_not (bm_val (em_callL ft (hr.mono (by decide)) (d__law_refused_right hd) (lm_cons (em_var 1) (lm_cons (em_var 3) lm_nil)))))))).pt (bl_one (sm_ret em_bl)) bl_nil)))) (bl_one (sm_ret em_bl))))
theorem d_law (hd : HdOk fa fn tq exs K mg base) : DefOk P w K mg base (gxOf tq K mg) 12 "law" 1 f_law := by
  obtain ⟨fd, Fu⟩ := hd.df 29 (d := df29)
  exact ⟨⟨_, fd, _, o_law hd Fu, hd.glo 36, Fu.kp, FunD.bindsN (ps := ["_law_script"]) Fu (fun _ _ _ _ _ _ us hl => match us, hl with | [_], _ => rfl)⟩, proper_run, arity_run⟩
end
end
end K12

namespace K12
open PySem PySem.Spec PyProof.Rows L2 Mi

def Vt (cells : List Int) (sp st : Int) : O := .lst [.lst (cells.map .int), .int sp, .int st]
noncomputable def shT : M Fl := (sSeq (sAsg 5 (eOp fMod (eCB fInt (lCons (eOp fPow (eOp fAdd (eOp fAdd (eOp fMod (eCB fInt (lCons (eVar 4) (lNil))) (eLit (.int 2147483563))) (eOp fMul (eLit (.int 81013)) (eVar 3))) (eLit (.int 3121))) (eLit (.int 5))) (lNil))) (eLit (.int 2147483587)))) (sSeq (sAsg 5 (eOp fMod (eCB fInt (lCons (eOp fPow (eOp fAdd (eOp fAdd (eOp fMul (eVar 5) (eOp fAdd (eOp fMul (eLit (.int 2)) (eVar 3)) (eLit (.int 1913)))) (eOp fMul (eOp fMul (eLit (.int 40151)) (eVar 3)) (eVar 3))) (eLit (.int 81013))) (eLit (.int 3))) (lNil))) (eLit (.int 2147483549)))) (sRet (eOp fMod (eCB fInt (lCons (eOp fDiv (eVar 5) (eLit (.int 64))) (lNil))) (eVar 1)))))
theorem shT_eq : (sSeq (sAsg 5 (eOp fMod (eCB fInt (lCons (eOp fPow (eOp fAdd (eOp fAdd (eOp fMod (eCB fInt (lCons (eVar 4) (lNil))) (eLit (.int 2147483563))) (eOp fMul (eLit (.int 81013)) (eVar 3))) (eLit (.int 3121))) (eLit (.int 5))) (lNil))) (eLit (.int 2147483587)))) (sSeq (sAsg 5 (eOp fMod (eCB fInt (lCons (eOp fPow (eOp fAdd (eOp fAdd (eOp fMul (eVar 5) (eOp fAdd (eOp fMul (eLit (.int 2)) (eVar 3)) (eLit (.int 1913)))) (eOp fMul (eOp fMul (eLit (.int 40151)) (eVar 3)) (eVar 3))) (eLit (.int 81013))) (eLit (.int 3))) (lNil))) (eLit (.int 2147483549)))) (sRet (eOp fMod (eCB fInt (lCons (eOp fDiv (eVar 5) (eLit (.int 64))) (lNil))) (eVar 1))))) = shT := rfl
theorem sh_tail {cells : List Int} {sp st many : Int} (h1 : 0 ≤ sp) (h2 : sp < 2 ^ 20) (h4 : 0 < many) (cell : Int) (r2 : Mi.S) : ∃ (v : Int) (r6 : Mi.S), shT
    [.lent 0 (Vt cells (sp + 1) st), .val (.int many), r2, .val (.int sp), .val (.int cell), .non] = .ok (.rt (.val (.int v)), [.lent 0 (Vt cells (sp + 1) st), .val (.int many), r2, .val (.int sp), .val (.int cell), r6]) ∧ 0 ≤ v ∧ v < many := by
  have md := fun i => mod_ok (i := i) h4
  have w2 := mul_l (i := 81013) (j := sp) (by decide)
  have w3 := mul_l (i := 2) (j := sp) (by decide)
  have w4 := mul_l (i := 40151) (j := sp) (by decide)
  have w6 := mul_l (i := 40151 * sp) (j := sp) (by omega)
  have e1 := fun i => mod_ok (i := i) (j := 2147483563) (by decide)
  have e2 := fun i => mod_ok (i := i) (j := 2147483587) (by decide)
  have e3 := fun i => mod_ok (i := i) (j := 2147483549) (by decide)
  have e4 := fun i => div_ok (i := i) (j := 64) (by decide) (by decide)
  have c1 := Int.emod_nonneg cell (show (2147483563 : Int) ≠ 0 by decide)
  have c2 := Int.emod_lt_of_pos cell (show (0 : Int) < 2147483563 by decide)
  have p5 := pow_ok (i := cell % 2147483563 + 81013 * sp + 3121) (j := 5) (by omega) (by decide) (by decide)
  obtain ⟨m1, hm1⟩ : ∃ m1, m1 = (cell % 2147483563 + 81013 * sp + 3121) ^ (5 : Int).toNat % 2147483587 := ⟨_, rfl⟩
  have d1 := Int.emod_nonneg ((cell % 2147483563 + 81013 * sp + 3121) ^ (5 : Int).toNat) (show (2147483587 : Int) ≠ 0 by decide)
  have d2 := Int.emod_lt_of_pos ((cell % 2147483563 + 81013 * sp + 3121) ^ (5 : Int).toNat) (show (0 : Int) < 2147483587 by decide)
  have w7 := mul_l (i := m1) (j := 2 * sp + 1913) (by rw [hm1]; omega)
  have a1 := ab_mul (a := m1) (b := 2 * sp + 1913) (p := 31) (q := 22) (by rw [hm1]; omega) (by omega)
  have a2 := ab_mul (a := 40151 * sp) (b := sp) (p := 37) (q := 20) (by omega) (by omega)
  have p3 := pow_ok (i := m1 * (2 * sp + 1913) + 40151 * sp * sp + 81013) (j := 3) (by omega) (by decide) (by decide)
  refine ⟨((m1 * (2 * sp + 1913) + 40151 * sp * sp + 81013) ^ (3 : Int).toNat % 2147483549).fdiv 64 % many, .val (.int ((m1 * (2 * sp + 1913) + 40151 * sp * sp + 81013) ^ (3 : Int).toNat % 2147483549)), ?_, Int.emod_nonneg _ (by omega), Int.emod_lt_of_pos _ h4⟩
  simp only [shT, e1, e2, e3, e4, w2, w3, w4, w6, p5, ← hm1, w7, p3, md, bnd_ap, of_ap, seq_ap, asg_ap, ret_ap, retN_ap, sif_ap, expr_ap, par_ap, par3_ap, asgT_ap, nil_ap, brk_ap, cnt_ap, give_val, give_own, give_ali, take_val, take_own, take_ali, ta_nil, ta_cons, pk_val, pk_own, pk_ali, pa_nil', pa_cons', var_ap, lit_ap, op_ap, un_ap, cb_ap, lc_ap, ln_ap, tup_ap, lst_ap, cv_ap, ck_ap, cl_ap, and_ap, or_ap, not_ap, eif_ap, bval_ap, bnot_ap, band_ap, bor_ap, gnam_ap, gtup_ap, gend_ap, gcons_ap, rng_ap, for_ap, loop_nil, setIx_ap, run_ap, M.ret, unpk, asB, back, retS, fit_of, sInt, sBl, fIx, fLen, fAbs, fInt, fList, Mi.isNon, fIsN, fNotN, fCmp, fLt, fLe, fGt, fGe, fAdd, fSub, fNeg, O.frz, Mi.pick, List.getElem?_cons_zero, List.getElem?_cons_succ, List.getElem?_nil, List.set_cons_zero, List.set_cons_succ, List.map_cons, List.map_nil, List.length_cons, List.length_nil, List.replicate_succ, List.replicate_zero, List.cons_append, List.nil_append, Option.map_some, Option.map_none, if_true, if_false, Bool.false_eq_true, Bool.not_true, Bool.not_false, decide_true, decide_false, reduceIte, ne_eq, not_true_eq_false, not_false_eq_true, List.getD_cons_zero, List.getD_cons_succ, Nat.reduceAdd, Nat.reduceSub, Nat.reduceLeDiff, Nat.reduceEqDiff, atI_0, atI_1, atI_2]
theorem shot_ok {cells : List Int} {sp st many : Int} (h1 : 0 ≤ sp) (h2 : sp < 2 ^ 20) (h3 : 0 ≤ st) (h4 : 0 < many) (h5 : many < 2 ^ 62) :
    ∃ v sp' st' : Int, f__law_shot [.lent 0 (Vt cells sp st), .val (.int many)] = .ok (.val (.int v), [.lent 0 (Vt cells sp' st'), .non]) ∧ 0 ≤ v ∧ v < many ∧ 0 ≤ sp' ∧ sp' ≤ sp + 1 ∧ 0 ≤ st' := by
  have dv := fun i => div_ok (i := i) (j := many) (by omega) (by omega)
  have md := fun i => mod_ok (i := i) h4
  have fd : ∀ i : Int, i.fdiv many = i / many := fun i => Int.fdiv_eq_ediv_of_nonneg i (by omega)
  by_cases hs : 0 < st
  · refine ⟨st % many, sp, st / many, ?_, Int.emod_nonneg _ (by omega), Int.emod_lt_of_pos _ h4, h1, by omega, Int.ediv_nonneg h3 (by omega)⟩
    simp only [f__law_shot, m__law_shot, Vt, onL, set2, set1, dv, md, hs, fd, bnd_ap, of_ap, seq_ap, asg_ap, ret_ap, retN_ap, sif_ap, expr_ap, par_ap, par3_ap, asgT_ap, nil_ap, brk_ap, cnt_ap, give_val, give_own, give_ali, take_val, take_own, take_ali, ta_nil, ta_cons, pk_val, pk_own, pk_ali, pa_nil', pa_cons', var_ap, lit_ap, op_ap, un_ap, cb_ap, lc_ap, ln_ap, tup_ap, lst_ap, cv_ap, ck_ap, cl_ap, and_ap, or_ap, not_ap, eif_ap, bval_ap, bnot_ap, band_ap, bor_ap, gnam_ap, gtup_ap, gend_ap, gcons_ap, rng_ap, for_ap, loop_nil, setIx_ap, run_ap, M.ret, unpk, asB, back, retS, fit_of, sInt, sBl, fIx, fLen, fAbs, fInt, fList, Mi.isNon, fIsN, fNotN, fCmp, fLt, fLe, fGt, fGe, fAdd, fSub, fNeg, O.frz, Mi.pick, List.getElem?_cons_zero, List.getElem?_cons_succ, List.getElem?_nil, List.set_cons_zero, List.set_cons_succ, List.map_cons, List.map_nil, List.length_cons, List.length_nil, List.replicate_succ, List.replicate_zero, List.cons_append, List.nil_append, Option.map_some, Option.map_none, if_true, if_false, Bool.false_eq_true, Bool.not_true, Bool.not_false, decide_true, decide_false, reduceIte, ne_eq, not_true_eq_false, not_false_eq_true, List.getD_cons_zero, List.getD_cons_succ, Nat.reduceAdd, Nat.reduceSub, Nat.reduceLeDiff, Nat.reduceEqDiff, atI_0, atI_1, atI_2]
  · have w1 := mul_l (i := 40151) (j := sp) (by decide)
    have w5 : ∀ i, fMul (.int 2) (.int i) = some (.val (.int (2 * i))) := fun i => mul_l (by decide)
    have p18 := pow_ok (i := 10) (j := 18) (by decide) (by decide) (by decide)
    by_cases hc : cells = []
    · subst hc
      obtain ⟨v, r6, t1, t2, t3⟩ := sh_tail (cells := []) (st := st) h1 h2 h4 (40151 * sp + 3121) .non
      refine ⟨v, sp + 1, st, ?_, t2, t3, by omega, by omega, h3⟩
      have hn : fNe (.lst []) (.lst []) = some (.val (.bl false)) := fNe_nil (n := 0) (xs := []) (by simp) (by decide)
      have hz : ¬ (sp < 0) := by omega
      simp only [Vt, List.map_nil] at t1
      have hz' : ¬ (sp < ((0 : Nat) : Int)) := by omega
      rw [f__law_shot, run_ap]
      simp only [m__law_shot, shT_eq]
      simp only [Vt, onL, set1, hs, hn, hz, hz', w1, List.map_nil, Int.natCast_zero, bnd_ap, of_ap, seq_ap, asg_ap, ret_ap, retN_ap, sif_ap, expr_ap, par_ap, par3_ap, asgT_ap, nil_ap, brk_ap, cnt_ap, give_val, give_own, give_ali, take_val, take_own, take_ali, ta_nil, ta_cons, pk_val, pk_own, pk_ali, pa_nil', pa_cons', var_ap, lit_ap, op_ap, un_ap, cb_ap, lc_ap, ln_ap, tup_ap, lst_ap, cv_ap, ck_ap, cl_ap, and_ap, or_ap, not_ap, eif_ap, bval_ap, bnot_ap, band_ap, bor_ap, gnam_ap, gtup_ap, gend_ap, gcons_ap, rng_ap, for_ap, loop_nil, setIx_ap, run_ap, M.ret, unpk, asB, back, retS, fit_of, sInt, sBl, fIx, fLen, fAbs, fInt, fList, Mi.isNon, fIsN, fNotN, fCmp, fLt, fLe, fGt, fGe, fAdd, fSub, fNeg, O.frz, Mi.pick, List.getElem?_cons_zero, List.getElem?_cons_succ, List.getElem?_nil, List.set_cons_zero, List.set_cons_succ, List.map_cons, List.map_nil, List.length_cons, List.length_nil, List.replicate_succ, List.replicate_zero, List.cons_append, List.nil_append, Option.map_some, Option.map_none, if_true, if_false, Bool.false_eq_true, Bool.not_true, Bool.not_false, decide_true, decide_false, reduceIte, ne_eq, not_true_eq_false, not_false_eq_true, List.getD_cons_zero, List.getD_cons_succ, Nat.reduceAdd, Nat.reduceSub, Nat.reduceLeDiff, Nat.reduceEqDiff, atI_0, atI_1, atI_2, t1]
    · have hn := fNe_nil (n := 0) (xs := cells.map D.int) pl_ints (by decide)
      have he : (cells.map D.int).isEmpty = false := by simpa using hc
      rw [he] at hn
      have lp : 0 < cells.length := List.length_pos_iff.mpr hc
      have ml := mod_ok (i := sp) (j := (cells.length : Int)) (by omega)
      obtain ⟨c, hx⟩ := ix_ints (cells := cells) (k := sp % (cells.length : Int)) (Int.emod_nonneg _ (by omega)) (Int.emod_lt_of_pos _ (by omega))
      obtain ⟨v, r6, t1, t2, t3⟩ := sh_tail (cells := cells) (st := st) h1 h2 h4 c .non
      simp only [Vt] at t1
      have ll : ((cells.map D.int).length : Int) = (cells.length : Int) := by rw [List.length_map]
      by_cases hb : sp < (cells.length : Int) ∧ (10 : Int) ^ (18 : Int).toNat ≤ (c.natAbs : Int)
      · obtain ⟨hb1, hb2⟩ := hb
        have q0 : (0 : Int) ≤ 2 * ((c.natAbs : Int) - 10 ^ (18 : Int).toNat) + (if decide (c < 0) = true then 1 else 0) := by split <;> omega
        refine ⟨(2 * ((c.natAbs : Int) - 10 ^ (18 : Int).toNat) + (if decide (c < 0) = true then 1 else 0)) % many, sp + 1, (2 * ((c.natAbs : Int) - 10 ^ (18 : Int).toNat) + (if decide (c < 0) = true then 1 else 0)) / many, ?_, Int.emod_nonneg _ (by omega), Int.emod_lt_of_pos _ h4, by omega, by omega, Int.ediv_nonneg q0 (by omega)⟩
        rw [f__law_shot, run_ap]
        simp only [m__law_shot, shT_eq]
        simp only [Vt, onL, set1, set2, hs, hn, ml, hx, ll, hb1, hb2, p18, w1, w5, dv, md, fd, abs_eq, bnd_ap, of_ap, seq_ap, asg_ap, ret_ap, retN_ap, sif_ap, expr_ap, par_ap, par3_ap, asgT_ap, nil_ap, brk_ap, cnt_ap, give_val, give_own, give_ali, take_val, take_own, take_ali, ta_nil, ta_cons, pk_val, pk_own, pk_ali, pa_nil', pa_cons', var_ap, lit_ap, op_ap, un_ap, cb_ap, lc_ap, ln_ap, tup_ap, lst_ap, cv_ap, ck_ap, cl_ap, and_ap, or_ap, not_ap, eif_ap, bval_ap, bnot_ap, band_ap, bor_ap, gnam_ap, gtup_ap, gend_ap, gcons_ap, rng_ap, for_ap, loop_nil, setIx_ap, run_ap, M.ret, unpk, asB, back, retS, fit_of, sInt, sBl, fIx, fLen, fAbs, fInt, fList, Mi.isNon, fIsN, fNotN, fCmp, fLt, fLe, fGt, fGe, fAdd, fSub, fNeg, O.frz, Mi.pick, List.getElem?_cons_zero, List.getElem?_cons_succ, List.getElem?_nil, List.set_cons_zero, List.set_cons_succ, List.map_cons, List.map_nil, List.length_cons, List.length_nil, List.replicate_succ, List.replicate_zero, List.cons_append, List.nil_append, Option.map_some, Option.map_none, if_true, if_false, Bool.false_eq_true, Bool.not_true, Bool.not_false, decide_true, decide_false, reduceIte, ne_eq, not_true_eq_false, not_false_eq_true, List.getD_cons_zero, List.getD_cons_succ, Nat.reduceAdd, Nat.reduceSub, Nat.reduceLeDiff, Nat.reduceEqDiff, atI_0, atI_1, atI_2]
      · refine ⟨v, sp + 1, st, ?_, t2, t3, by omega, by omega, h3⟩
        by_cases hb1 : sp < (cells.length : Int)
        · have hb2 : ¬ ((10 : Int) ^ (18 : Int).toNat ≤ (c.natAbs : Int)) := fun z => hb ⟨hb1, z⟩
          rw [f__law_shot, run_ap]
          simp only [m__law_shot, shT_eq]
          simp only [Vt, onL, set1, hs, hn, ml, hx, ll, hb1, hb2, p18, w1, abs_eq, bnd_ap, of_ap, seq_ap, asg_ap, ret_ap, retN_ap, sif_ap, expr_ap, par_ap, par3_ap, asgT_ap, nil_ap, brk_ap, cnt_ap, give_val, give_own, give_ali, take_val, take_own, take_ali, ta_nil, ta_cons, pk_val, pk_own, pk_ali, pa_nil', pa_cons', var_ap, lit_ap, op_ap, un_ap, cb_ap, lc_ap, ln_ap, tup_ap, lst_ap, cv_ap, ck_ap, cl_ap, and_ap, or_ap, not_ap, eif_ap, bval_ap, bnot_ap, band_ap, bor_ap, gnam_ap, gtup_ap, gend_ap, gcons_ap, rng_ap, for_ap, loop_nil, setIx_ap, run_ap, M.ret, unpk, asB, back, retS, fit_of, sInt, sBl, fIx, fLen, fAbs, fInt, fList, Mi.isNon, fIsN, fNotN, fCmp, fLt, fLe, fGt, fGe, fAdd, fSub, fNeg, O.frz, Mi.pick, List.getElem?_cons_zero, List.getElem?_cons_succ, List.getElem?_nil, List.set_cons_zero, List.set_cons_succ, List.map_cons, List.map_nil, List.length_cons, List.length_nil, List.replicate_succ, List.replicate_zero, List.cons_append, List.nil_append, Option.map_some, Option.map_none, if_true, if_false, Bool.false_eq_true, Bool.not_true, Bool.not_false, decide_true, decide_false, reduceIte, ne_eq, not_true_eq_false, not_false_eq_true, List.getD_cons_zero, List.getD_cons_succ, Nat.reduceAdd, Nat.reduceSub, Nat.reduceLeDiff, Nat.reduceEqDiff, atI_0, atI_1, atI_2, t1]
        · rw [f__law_shot, run_ap]
          simp only [m__law_shot, shT_eq]
          simp only [Vt, onL, set1, hs, hn, ml, hx, ll, hb1, w1, bnd_ap, of_ap, seq_ap, asg_ap, ret_ap, retN_ap, sif_ap, expr_ap, par_ap, par3_ap, asgT_ap, nil_ap, brk_ap, cnt_ap, give_val, give_own, give_ali, take_val, take_own, take_ali, ta_nil, ta_cons, pk_val, pk_own, pk_ali, pa_nil', pa_cons', var_ap, lit_ap, op_ap, un_ap, cb_ap, lc_ap, ln_ap, tup_ap, lst_ap, cv_ap, ck_ap, cl_ap, and_ap, or_ap, not_ap, eif_ap, bval_ap, bnot_ap, band_ap, bor_ap, gnam_ap, gtup_ap, gend_ap, gcons_ap, rng_ap, for_ap, loop_nil, setIx_ap, run_ap, M.ret, unpk, asB, back, retS, fit_of, sInt, sBl, fIx, fLen, fAbs, fInt, fList, Mi.isNon, fIsN, fNotN, fCmp, fLt, fLe, fGt, fGe, fAdd, fSub, fNeg, O.frz, Mi.pick, List.getElem?_cons_zero, List.getElem?_cons_succ, List.getElem?_nil, List.set_cons_zero, List.set_cons_succ, List.map_cons, List.map_nil, List.length_cons, List.length_nil, List.replicate_succ, List.replicate_zero, List.cons_append, List.nil_append, Option.map_some, Option.map_none, if_true, if_false, Bool.false_eq_true, Bool.not_true, Bool.not_false, decide_true, decide_false, reduceIte, ne_eq, not_true_eq_false, not_false_eq_true, List.getD_cons_zero, List.getD_cons_succ, Nat.reduceAdd, Nat.reduceSub, Nat.reduceLeDiff, Nat.reduceEqDiff, atI_0, atI_1, atI_2, t1]
def VS (o : O) (n : Nat) : Prop := ∃ (cells : List Int) (sp st : Int), o = Vt cells sp st ∧ 0 ≤ sp ∧ sp ≤ n ∧ 0 ≤ st
theorem shot_v {o : O} {n : Nat} {many : Int} (h : VS o n) (hn : n < 1000000) (h4 : 0 < many) (h5 : many < 2 ^ 62) : ∃ (v : Int) (o' : O), f__law_shot [.lent 0 o, .val (.int many)] = .ok (.val (.int v), [.lent 0 o', .non]) ∧ 0 ≤ v ∧ v < many ∧ VS o' (n + 1) := by
  obtain ⟨cells, sp, st, rfl, h2, h3, h6⟩ := h
  obtain ⟨v, sp', st', e, a, b, c, d, f⟩ := shot_ok (cells := cells) (many := many) h2 (by omega) h6 h4 h5
  exact ⟨v, _, e, a, b, cells, sp', st', rfl, c, by omega, f⟩
theorem pick_v {o : O} {n : Nat} {xs : List D} (h : VS o n) (hn : n < 1000000) (h4 : 0 < xs.length) (h5 : xs.length ≤ 1000) : ∃ (x : D) (o' : O), f__law_pick [.lent 0 o, .val (.lst xs)] = .ok (.val x, [.lent 0 o', .non]) ∧ x ∈ xs ∧ VS o' (n + 1) := by
  obtain ⟨v, o', e, a, b, c⟩ := shot_v (many := (xs.length : Int)) h hn (by omega) (by omega)
  obtain ⟨x, e2, m⟩ := atI_mem a b
  refine ⟨x, o', ?_, m, c⟩
  simp only [f__law_pick, m__law_pick, lendTo, hand, e, e2, bnd_ap, of_ap, seq_ap, asg_ap, ret_ap, retN_ap, sif_ap, expr_ap, par_ap, par3_ap, asgT_ap, nil_ap, brk_ap, cnt_ap, give_val, give_own, give_ali, take_val, take_own, take_ali, ta_nil, ta_cons, pk_val, pk_own, pk_ali, pa_nil', pa_cons', var_ap, lit_ap, op_ap, un_ap, cb_ap, lc_ap, ln_ap, tup_ap, lst_ap, cv_ap, ck_ap, cl_ap, and_ap, or_ap, not_ap, eif_ap, bval_ap, bnot_ap, band_ap, bor_ap, gnam_ap, gtup_ap, gend_ap, gcons_ap, rng_ap, for_ap, loop_nil, setIx_ap, run_ap, M.ret, unpk, asB, back, retS, fit_of, sInt, sBl, fIx, fLen, fAbs, fInt, fList, Mi.isNon, fIsN, fNotN, fCmp, fLt, fLe, fGt, fGe, fAdd, fSub, fNeg, O.frz, Mi.pick, List.getElem?_cons_zero, List.getElem?_cons_succ, List.getElem?_nil, List.set_cons_zero, List.set_cons_succ, List.map_cons, List.map_nil, List.length_cons, List.length_nil, List.replicate_succ, List.replicate_zero, List.cons_append, List.nil_append, Option.map_some, Option.map_none, if_true, if_false, Bool.false_eq_true, Bool.not_true, Bool.not_false, decide_true, decide_false, reduceIte, ne_eq, not_true_eq_false, not_false_eq_true, List.getD_cons_zero, List.getD_cons_succ, Nat.reduceAdd, Nat.reduceSub, Nat.reduceLeDiff, Nat.reduceEqDiff, atI_0, atI_1, atI_2]
theorem lens_v (ns : List Int) (hl : ns.length ≤ 63) : ∃ o, f__law_lens [.val (.scr (ns.map D.int))] = .ok (.own o, [.non]) ∧ VS o 0 := by
  have hs : items (.lst (cut (ns.map D.int) none (some 61))) = some ((ns.take 61).map D.int) := by
    have e : HT.sIx (ns.map D.int).length (ns.map D.int).length (some 61) = min 61 (ns.map D.int).length := HT.sIx_nat _ _ 61
    show some (cut (ns.map D.int) none (some 61)) = _
    unfold cut
    rw [HT.sIx_none, e, List.drop_zero, Nat.sub_zero, List.map_take, List.length_map]
    refine congrArg some ?_
    rw [List.take_eq_take_iff]
    simp only [List.length_map]
    omega
  refine ⟨Vt (ns.take 61) 0 0, ?_, ns.take 61, 0, 0, rfl, by decide, by decide, by decide⟩
  rw [f__law_lens, run_ap]
  have c := ecomp_map (own := [1]) (mi := iSeq (eSl (eVar 0) pNone (pSome (eLit (.int 61))))) (g := gNam 1) (me := eCB fInt (lCons (eVar 1) lNil)) (ns.take 61) D.int D.int (τ := [.val (.scr (ns.map D.int)), .non]) (τ1 := [.val (.scr (ns.map D.int)), .non]) (τ0 := [.val (.scr (ns.map D.int)), .non])
    (iseq_own (.lst (cut (ns.map D.int) none (some 61))) (by simp only [eSl, pNone, pSome, asI, fSl, bnd_ap, of_ap, seq_ap, asg_ap, ret_ap, retN_ap, sif_ap, expr_ap, par_ap, par3_ap, asgT_ap, nil_ap, brk_ap, cnt_ap, give_val, give_own, give_ali, take_val, take_own, take_ali, ta_nil, ta_cons, pk_val, pk_own, pk_ali, pa_nil', pa_cons', var_ap, lit_ap, op_ap, un_ap, cb_ap, lc_ap, ln_ap, tup_ap, lst_ap, cv_ap, ck_ap, cl_ap, and_ap, or_ap, not_ap, eif_ap, bval_ap, bnot_ap, band_ap, bor_ap, gnam_ap, gtup_ap, gend_ap, gcons_ap, rng_ap, for_ap, loop_nil, setIx_ap, run_ap, M.ret, unpk, asB, back, retS, fit_of, sInt, sBl, fIx, fLen, fAbs, fInt, fList, Mi.isNon, fIsN, fNotN, fCmp, fLt, fLe, fGt, fGe, fAdd, fSub, fNeg, O.frz, Mi.pick, List.getElem?_cons_zero, List.getElem?_cons_succ, List.getElem?_nil, List.set_cons_zero, List.set_cons_succ, List.map_cons, List.map_nil, List.length_cons, List.length_nil, List.replicate_succ, List.replicate_zero, List.cons_append, List.nil_append, Option.map_some, Option.map_none, if_true, if_false, Bool.false_eq_true, Bool.not_true, Bool.not_false, decide_true, decide_false, reduceIte, ne_eq, not_true_eq_false, not_false_eq_true, List.getD_cons_zero, List.getD_cons_succ, Nat.reduceAdd, Nat.reduceSub, Nat.reduceLeDiff, Nat.reduceEqDiff, atI_0, atI_1, atI_2]) hs) rfl rfl (fun x _ => ⟨[.val (.scr (ns.map D.int)), .val (.int x)], [.val (.scr (ns.map D.int)), .val (.int x)], rfl, by simp only [bnd_ap, of_ap, seq_ap, asg_ap, ret_ap, retN_ap, sif_ap, expr_ap, par_ap, par3_ap, asgT_ap, nil_ap, brk_ap, cnt_ap, give_val, give_own, give_ali, take_val, take_own, take_ali, ta_nil, ta_cons, pk_val, pk_own, pk_ali, pa_nil', pa_cons', var_ap, lit_ap, op_ap, un_ap, cb_ap, lc_ap, ln_ap, tup_ap, lst_ap, cv_ap, ck_ap, cl_ap, and_ap, or_ap, not_ap, eif_ap, bval_ap, bnot_ap, band_ap, bor_ap, gnam_ap, gtup_ap, gend_ap, gcons_ap, rng_ap, for_ap, loop_nil, setIx_ap, run_ap, M.ret, unpk, asB, back, retS, fit_of, sInt, sBl, fIx, fLen, fAbs, fInt, fList, Mi.isNon, fIsN, fNotN, fCmp, fLt, fLe, fGt, fGe, fAdd, fSub, fNeg, O.frz, Mi.pick, List.getElem?_cons_zero, List.getElem?_cons_succ, List.getElem?_nil, List.set_cons_zero, List.set_cons_succ, List.map_cons, List.map_nil, List.length_cons, List.length_nil, List.replicate_succ, List.replicate_zero, List.cons_append, List.nil_append, Option.map_some, Option.map_none, if_true, if_false, Bool.false_eq_true, Bool.not_true, Bool.not_false, decide_true, decide_false, reduceIte, ne_eq, not_true_eq_false, not_false_eq_true, List.getD_cons_zero, List.getD_cons_succ, Nat.reduceAdd, Nat.reduceSub, Nat.reduceLeDiff, Nat.reduceEqDiff, atI_0, atI_1, atI_2], rfl⟩) (by simp; omega) rfl
  simp only [m__law_lens, c, Vt, bnd_ap, of_ap, seq_ap, asg_ap, ret_ap, retN_ap, sif_ap, expr_ap, par_ap, par3_ap, asgT_ap, nil_ap, brk_ap, cnt_ap, give_val, give_own, give_ali, take_val, take_own, take_ali, ta_nil, ta_cons, pk_val, pk_own, pk_ali, pa_nil', pa_cons', var_ap, lit_ap, op_ap, un_ap, cb_ap, lc_ap, ln_ap, tup_ap, lst_ap, cv_ap, ck_ap, cl_ap, and_ap, or_ap, not_ap, eif_ap, bval_ap, bnot_ap, band_ap, bor_ap, gnam_ap, gtup_ap, gend_ap, gcons_ap, rng_ap, for_ap, loop_nil, setIx_ap, run_ap, M.ret, unpk, asB, back, retS, fit_of, sInt, sBl, fIx, fLen, fAbs, fInt, fList, Mi.isNon, fIsN, fNotN, fCmp, fLt, fLe, fGt, fGe, fAdd, fSub, fNeg, O.frz, Mi.pick, List.getElem?_cons_zero, List.getElem?_cons_succ, List.getElem?_nil, List.set_cons_zero, List.set_cons_succ, List.map_cons, List.map_nil, List.length_cons, List.length_nil, List.replicate_succ, List.replicate_zero, List.cons_append, List.nil_append, Option.map_some, Option.map_none, if_true, if_false, Bool.false_eq_true, Bool.not_true, Bool.not_false, decide_true, decide_false, reduceIte, ne_eq, not_true_eq_false, not_false_eq_true, List.getD_cons_zero, List.getD_cons_succ, Nat.reduceAdd, Nat.reduceSub, Nat.reduceLeDiff, Nat.reduceEqDiff, atI_0, atI_1, atI_2]
  rfl

end K12

namespace K12
open PySem PySem.Spec PyProof.Rows L2 Mi
/-! #### pictures, by their places -/
abbrev Pt := Int × Int
abbrev pT (p : Pt) : D := .tup [.int p.1, .int p.2]
def nr (p : Pt) : Bool := (decide (-1000000000 ≤ p.1) && decide (p.1 ≤ 1000000000)) && (decide (-1000000000 ≤ p.2) && decide (p.2 ≤ 1000000000))
theorem nr_iff {p : Pt} : nr p = true ↔ -1000000000 ≤ p.1 ∧ p.1 ≤ 1000000000 ∧ -1000000000 ≤ p.2 ∧ p.2 ≤ 1000000000 := by
  unfold nr
  simp only [Bool.and_eq_true, decide_eq_true_eq, and_assoc]
theorem int_ok (i : Int) : f_is_integer [.val (.int i)] = .ok (.val (.bl true), [.non]) := by
  have e1 : fIsi isT [.int i, .ty "int"] = some (.val (.bl true)) := rfl
  have e2 : fIsi isT [.int i, .ty "bool"] = some (.val (.bl false)) := rfl
  simp only [f_is_integer, m_is_integer, e1, e2, bnd_ap, of_ap, seq_ap, asg_ap, ret_ap, retN_ap, sif_ap, expr_ap, par_ap, par3_ap, asgT_ap, nil_ap, brk_ap, cnt_ap, give_val, give_own, give_ali, take_val, take_own, take_ali, ta_nil, ta_cons, pk_val, pk_own, pk_ali, pa_nil', pa_cons', var_ap, lit_ap, op_ap, un_ap, cb_ap, lc_ap, ln_ap, tup_ap, lst_ap, cv_ap, ck_ap, cl_ap, and_ap, or_ap, not_ap, eif_ap, bval_ap, bnot_ap, band_ap, bor_ap, gnam_ap, gtup_ap, gend_ap, gcons_ap, rng_ap, for_ap, loop_nil, setIx_ap, run_ap, M.ret, unpk, asB, back, retS, fit_of, sInt, sBl, fIx, fLen, fAbs, fInt, fList, Mi.isNon, fIsN, fNotN, fCmp, fLt, fLe, fGt, fGe, fAdd, fSub, fNeg, O.frz, Mi.pick, List.getElem?_cons_zero, List.getElem?_cons_succ, List.getElem?_nil, List.set_cons_zero, List.set_cons_succ, List.map_cons, List.map_nil, List.length_cons, List.length_nil, List.replicate_succ, List.replicate_zero, List.cons_append, List.nil_append, Option.map_some, Option.map_none, if_true, if_false, Bool.false_eq_true, Bool.not_true, Bool.not_false, decide_true, decide_false, reduceIte, ne_eq, not_true_eq_false, not_false_eq_true, List.getD_cons_zero, List.getD_cons_succ, Nat.reduceAdd, Nat.reduceSub, Nat.reduceLeDiff, Nat.reduceEqDiff, atI_0, atI_1, atI_2, lam_ap, append_ap, make_ap, setF_ap, own_ap, meth_ap, methD_ap, norm_val, norm_own, norm_ali, onMethD_ap, onMeth_val, onMeth_ali, lz_ap, raise_ap, try_ap, thunk_raw, thunk_exc, byes_ap, Mi.insAt, lendTo, hand, eChain, Mi.isL, onL, okFl]
theorem int_no {d : D} (e1 : fIsi isT [d, .ty "int"] = some (.val (.bl false))) : f_is_integer [.val d] = .ok (.val (.bl false), [.non]) := by
  simp only [f_is_integer, m_is_integer, e1, bnd_ap, of_ap, seq_ap, asg_ap, ret_ap, retN_ap, sif_ap, expr_ap, par_ap, par3_ap, asgT_ap, nil_ap, brk_ap, cnt_ap, give_val, give_own, give_ali, take_val, take_own, take_ali, ta_nil, ta_cons, pk_val, pk_own, pk_ali, pa_nil', pa_cons', var_ap, lit_ap, op_ap, un_ap, cb_ap, lc_ap, ln_ap, tup_ap, lst_ap, cv_ap, ck_ap, cl_ap, and_ap, or_ap, not_ap, eif_ap, bval_ap, bnot_ap, band_ap, bor_ap, gnam_ap, gtup_ap, gend_ap, gcons_ap, rng_ap, for_ap, loop_nil, setIx_ap, run_ap, M.ret, unpk, asB, back, retS, fit_of, sInt, sBl, fIx, fLen, fAbs, fInt, fList, Mi.isNon, fIsN, fNotN, fCmp, fLt, fLe, fGt, fGe, fAdd, fSub, fNeg, O.frz, Mi.pick, List.getElem?_cons_zero, List.getElem?_cons_succ, List.getElem?_nil, List.set_cons_zero, List.set_cons_succ, List.map_cons, List.map_nil, List.length_cons, List.length_nil, List.replicate_succ, List.replicate_zero, List.cons_append, List.nil_append, Option.map_some, Option.map_none, if_true, if_false, Bool.false_eq_true, Bool.not_true, Bool.not_false, decide_true, decide_false, reduceIte, ne_eq, not_true_eq_false, not_false_eq_true, List.getD_cons_zero, List.getD_cons_succ, Nat.reduceAdd, Nat.reduceSub, Nat.reduceLeDiff, Nat.reduceEqDiff, atI_0, atI_1, atI_2, lam_ap, append_ap, make_ap, setF_ap, own_ap, meth_ap, methD_ap, norm_val, norm_own, norm_ali, onMethD_ap, onMeth_val, onMeth_ali, lz_ap, raise_ap, try_ap, thunk_raw, thunk_exc, byes_ap, Mi.insAt, lendTo, hand, eChain, Mi.isL, onL, okFl]
theorem int_bl (b : Bool) : f_is_integer [.val (.bl b)] = .ok (.val (.bl false), [.non]) := by
  have e1 : fIsi isT [.bl b, .ty "int"] = some (.val (.bl true)) := rfl
  have e2 : fIsi isT [.bl b, .ty "bool"] = some (.val (.bl true)) := rfl
  simp only [f_is_integer, m_is_integer, e1, e2, bnd_ap, of_ap, seq_ap, asg_ap, ret_ap, retN_ap, sif_ap, expr_ap, par_ap, par3_ap, asgT_ap, nil_ap, brk_ap, cnt_ap, give_val, give_own, give_ali, take_val, take_own, take_ali, ta_nil, ta_cons, pk_val, pk_own, pk_ali, pa_nil', pa_cons', var_ap, lit_ap, op_ap, un_ap, cb_ap, lc_ap, ln_ap, tup_ap, lst_ap, cv_ap, ck_ap, cl_ap, and_ap, or_ap, not_ap, eif_ap, bval_ap, bnot_ap, band_ap, bor_ap, gnam_ap, gtup_ap, gend_ap, gcons_ap, rng_ap, for_ap, loop_nil, setIx_ap, run_ap, M.ret, unpk, asB, back, retS, fit_of, sInt, sBl, fIx, fLen, fAbs, fInt, fList, Mi.isNon, fIsN, fNotN, fCmp, fLt, fLe, fGt, fGe, fAdd, fSub, fNeg, O.frz, Mi.pick, List.getElem?_cons_zero, List.getElem?_cons_succ, List.getElem?_nil, List.set_cons_zero, List.set_cons_succ, List.map_cons, List.map_nil, List.length_cons, List.length_nil, List.replicate_succ, List.replicate_zero, List.cons_append, List.nil_append, Option.map_some, Option.map_none, if_true, if_false, Bool.false_eq_true, Bool.not_true, Bool.not_false, decide_true, decide_false, reduceIte, ne_eq, not_true_eq_false, not_false_eq_true, List.getD_cons_zero, List.getD_cons_succ, Nat.reduceAdd, Nat.reduceSub, Nat.reduceLeDiff, Nat.reduceEqDiff, atI_0, atI_1, atI_2, lam_ap, append_ap, make_ap, setF_ap, own_ap, meth_ap, methD_ap, norm_val, norm_own, norm_ali, onMethD_ap, onMeth_val, onMeth_ali, lz_ap, raise_ap, try_ap, thunk_raw, thunk_exc, byes_ap, Mi.insAt, lendTo, hand, eChain, Mi.isL, onL, okFl]
theorem within_ok (i a b : Int) : f_is_within [.val (.int i), .val (.int a), .val (.int b)] = .ok (.val (.bl (decide (a ≤ i) && decide (i ≤ b))), [.non, .non, .non]) := by
  have e1 := int_ok i
  by_cases h : a ≤ i
  · simp only [f_is_within, m_is_within, e1, h, bnd_ap, of_ap, seq_ap, asg_ap, ret_ap, retN_ap, sif_ap, expr_ap, par_ap, par3_ap, asgT_ap, nil_ap, brk_ap, cnt_ap, give_val, give_own, give_ali, take_val, take_own, take_ali, ta_nil, ta_cons, pk_val, pk_own, pk_ali, pa_nil', pa_cons', var_ap, lit_ap, op_ap, un_ap, cb_ap, lc_ap, ln_ap, tup_ap, lst_ap, cv_ap, ck_ap, cl_ap, and_ap, or_ap, not_ap, eif_ap, bval_ap, bnot_ap, band_ap, bor_ap, gnam_ap, gtup_ap, gend_ap, gcons_ap, rng_ap, for_ap, loop_nil, setIx_ap, run_ap, M.ret, unpk, asB, back, retS, fit_of, sInt, sBl, fIx, fLen, fAbs, fInt, fList, Mi.isNon, fIsN, fNotN, fCmp, fLt, fLe, fGt, fGe, fAdd, fSub, fNeg, O.frz, Mi.pick, List.getElem?_cons_zero, List.getElem?_cons_succ, List.getElem?_nil, List.set_cons_zero, List.set_cons_succ, List.map_cons, List.map_nil, List.length_cons, List.length_nil, List.replicate_succ, List.replicate_zero, List.cons_append, List.nil_append, Option.map_some, Option.map_none, if_true, if_false, Bool.false_eq_true, Bool.not_true, Bool.not_false, decide_true, decide_false, reduceIte, ne_eq, not_true_eq_false, not_false_eq_true, List.getD_cons_zero, List.getD_cons_succ, Nat.reduceAdd, Nat.reduceSub, Nat.reduceLeDiff, Nat.reduceEqDiff, atI_0, atI_1, atI_2, lam_ap, append_ap, make_ap, setF_ap, own_ap, meth_ap, methD_ap, norm_val, norm_own, norm_ali, onMethD_ap, onMeth_val, onMeth_ali, lz_ap, raise_ap, try_ap, thunk_raw, thunk_exc, byes_ap, Mi.insAt, lendTo, hand, eChain, Mi.isL, onL, okFl, Bool.true_and]
  · simp only [f_is_within, m_is_within, e1, h, bnd_ap, of_ap, seq_ap, asg_ap, ret_ap, retN_ap, sif_ap, expr_ap, par_ap, par3_ap, asgT_ap, nil_ap, brk_ap, cnt_ap, give_val, give_own, give_ali, take_val, take_own, take_ali, ta_nil, ta_cons, pk_val, pk_own, pk_ali, pa_nil', pa_cons', var_ap, lit_ap, op_ap, un_ap, cb_ap, lc_ap, ln_ap, tup_ap, lst_ap, cv_ap, ck_ap, cl_ap, and_ap, or_ap, not_ap, eif_ap, bval_ap, bnot_ap, band_ap, bor_ap, gnam_ap, gtup_ap, gend_ap, gcons_ap, rng_ap, for_ap, loop_nil, setIx_ap, run_ap, M.ret, unpk, asB, back, retS, fit_of, sInt, sBl, fIx, fLen, fAbs, fInt, fList, Mi.isNon, fIsN, fNotN, fCmp, fLt, fLe, fGt, fGe, fAdd, fSub, fNeg, O.frz, Mi.pick, List.getElem?_cons_zero, List.getElem?_cons_succ, List.getElem?_nil, List.set_cons_zero, List.set_cons_succ, List.map_cons, List.map_nil, List.length_cons, List.length_nil, List.replicate_succ, List.replicate_zero, List.cons_append, List.nil_append, Option.map_some, Option.map_none, if_true, if_false, Bool.false_eq_true, Bool.not_true, Bool.not_false, decide_true, decide_false, reduceIte, ne_eq, not_true_eq_false, not_false_eq_true, List.getD_cons_zero, List.getD_cons_succ, Nat.reduceAdd, Nat.reduceSub, Nat.reduceLeDiff, Nat.reduceEqDiff, atI_0, atI_1, atI_2, lam_ap, append_ap, make_ap, setF_ap, own_ap, meth_ap, methD_ap, norm_val, norm_own, norm_ali, onMethD_ap, onMeth_val, onMeth_ali, lz_ap, raise_ap, try_ap, thunk_raw, thunk_exc, byes_ap, Mi.insAt, lendTo, hand, eChain, Mi.isL, onL, okFl, Bool.false_and]
theorem within_any (i : Int) : f_is_within [.val (.int i), .val .non, .val .non] = .ok (.val (.bl true), [.non, .non, .non]) := by
  have e1 := int_ok i
  simp only [f_is_within, m_is_within, e1, bnd_ap, of_ap, seq_ap, asg_ap, ret_ap, retN_ap, sif_ap, expr_ap, par_ap, par3_ap, asgT_ap, nil_ap, brk_ap, cnt_ap, give_val, give_own, give_ali, take_val, take_own, take_ali, ta_nil, ta_cons, pk_val, pk_own, pk_ali, pa_nil', pa_cons', var_ap, lit_ap, op_ap, un_ap, cb_ap, lc_ap, ln_ap, tup_ap, lst_ap, cv_ap, ck_ap, cl_ap, and_ap, or_ap, not_ap, eif_ap, bval_ap, bnot_ap, band_ap, bor_ap, gnam_ap, gtup_ap, gend_ap, gcons_ap, rng_ap, for_ap, loop_nil, setIx_ap, run_ap, M.ret, unpk, asB, back, retS, fit_of, sInt, sBl, fIx, fLen, fAbs, fInt, fList, Mi.isNon, fIsN, fNotN, fCmp, fLt, fLe, fGt, fGe, fAdd, fSub, fNeg, O.frz, Mi.pick, List.getElem?_cons_zero, List.getElem?_cons_succ, List.getElem?_nil, List.set_cons_zero, List.set_cons_succ, List.map_cons, List.map_nil, List.length_cons, List.length_nil, List.replicate_succ, List.replicate_zero, List.cons_append, List.nil_append, Option.map_some, Option.map_none, if_true, if_false, Bool.false_eq_true, Bool.not_true, Bool.not_false, decide_true, decide_false, reduceIte, ne_eq, not_true_eq_false, not_false_eq_true, List.getD_cons_zero, List.getD_cons_succ, Nat.reduceAdd, Nat.reduceSub, Nat.reduceLeDiff, Nat.reduceEqDiff, atI_0, atI_1, atI_2, lam_ap, append_ap, make_ap, setF_ap, own_ap, meth_ap, methD_ap, norm_val, norm_own, norm_ali, onMethD_ap, onMeth_val, onMeth_ali, lz_ap, raise_ap, try_ap, thunk_raw, thunk_exc, byes_ap, Mi.insAt, lendTo, hand, eChain, Mi.isL, onL, okFl]
theorem within_no {d a b : D} (h : f_is_integer [.val d] = .ok (.val (.bl false), [.non])) : f_is_within [.val d, .val a, .val b] = .ok (.val (.bl false), [.non, .non, .non]) := by
  simp only [f_is_within, m_is_within, h, bnd_ap, of_ap, seq_ap, asg_ap, ret_ap, retN_ap, sif_ap, expr_ap, par_ap, par3_ap, asgT_ap, nil_ap, brk_ap, cnt_ap, give_val, give_own, give_ali, take_val, take_own, take_ali, ta_nil, ta_cons, pk_val, pk_own, pk_ali, pa_nil', pa_cons', var_ap, lit_ap, op_ap, un_ap, cb_ap, lc_ap, ln_ap, tup_ap, lst_ap, cv_ap, ck_ap, cl_ap, and_ap, or_ap, not_ap, eif_ap, bval_ap, bnot_ap, band_ap, bor_ap, gnam_ap, gtup_ap, gend_ap, gcons_ap, rng_ap, for_ap, loop_nil, setIx_ap, run_ap, M.ret, unpk, asB, back, retS, fit_of, sInt, sBl, fIx, fLen, fAbs, fInt, fList, Mi.isNon, fIsN, fNotN, fCmp, fLt, fLe, fGt, fGe, fAdd, fSub, fNeg, O.frz, Mi.pick, List.getElem?_cons_zero, List.getElem?_cons_succ, List.getElem?_nil, List.set_cons_zero, List.set_cons_succ, List.map_cons, List.map_nil, List.length_cons, List.length_nil, List.replicate_succ, List.replicate_zero, List.cons_append, List.nil_append, Option.map_some, Option.map_none, if_true, if_false, Bool.false_eq_true, Bool.not_true, Bool.not_false, decide_true, decide_false, reduceIte, ne_eq, not_true_eq_false, not_false_eq_true, List.getD_cons_zero, List.getD_cons_succ, Nat.reduceAdd, Nat.reduceSub, Nat.reduceLeDiff, Nat.reduceEqDiff, atI_0, atI_1, atI_2, lam_ap, append_ap, make_ap, setF_ap, own_ap, meth_ap, methD_ap, norm_val, norm_own, norm_ali, onMethD_ap, onMeth_val, onMeth_ali, lz_ap, raise_ap, try_ap, thunk_raw, thunk_exc, byes_ap, Mi.insAt, lendTo, hand, eChain, Mi.isL, onL, okFl]
theorem need_any (i : Int) (w : D) : f_need_number [.val (.int i), .val w, .val .non, .val .non] = .ok (.val .non, [.non, .non, .non, .non]) := by
  have e1 := within_any i
  simp only [f_need_number, m_need_number, e1, bnd_ap, of_ap, seq_ap, asg_ap, ret_ap, retN_ap, sif_ap, expr_ap, par_ap, par3_ap, asgT_ap, nil_ap, brk_ap, cnt_ap, give_val, give_own, give_ali, take_val, take_own, take_ali, ta_nil, ta_cons, pk_val, pk_own, pk_ali, pa_nil', pa_cons', var_ap, lit_ap, op_ap, un_ap, cb_ap, lc_ap, ln_ap, tup_ap, lst_ap, cv_ap, ck_ap, cl_ap, and_ap, or_ap, not_ap, eif_ap, bval_ap, bnot_ap, band_ap, bor_ap, gnam_ap, gtup_ap, gend_ap, gcons_ap, rng_ap, for_ap, loop_nil, setIx_ap, run_ap, M.ret, unpk, asB, back, retS, fit_of, sInt, sBl, fIx, fLen, fAbs, fInt, fList, Mi.isNon, fIsN, fNotN, fCmp, fLt, fLe, fGt, fGe, fAdd, fSub, fNeg, O.frz, Mi.pick, List.getElem?_cons_zero, List.getElem?_cons_succ, List.getElem?_nil, List.set_cons_zero, List.set_cons_succ, List.map_cons, List.map_nil, List.length_cons, List.length_nil, List.replicate_succ, List.replicate_zero, List.cons_append, List.nil_append, Option.map_some, Option.map_none, if_true, if_false, Bool.false_eq_true, Bool.not_true, Bool.not_false, decide_true, decide_false, reduceIte, ne_eq, not_true_eq_false, not_false_eq_true, List.getD_cons_zero, List.getD_cons_succ, Nat.reduceAdd, Nat.reduceSub, Nat.reduceLeDiff, Nat.reduceEqDiff, atI_0, atI_1, atI_2, lam_ap, append_ap, make_ap, setF_ap, own_ap, meth_ap, methD_ap, norm_val, norm_own, norm_ali, onMethD_ap, onMeth_val, onMeth_ali, lz_ap, raise_ap, try_ap, thunk_raw, thunk_exc, byes_ap, Mi.insAt, lendTo, hand, eChain, Mi.isL, onL, okFl]
theorem need_no {d w : D} (h : f_is_integer [.val d] = .ok (.val (.bl false), [.non])) : f_need_number [.val d, .val w, .val .non, .val .non] = .exc "BadNumber" [("part", w)] [.non, .non, .non, .non] := by
  have e1 := within_no (a := .non) (b := .non) h
  simp only [f_need_number, m_need_number, e1, bnd_ap, of_ap, seq_ap, asg_ap, ret_ap, retN_ap, sif_ap, expr_ap, par_ap, par3_ap, asgT_ap, nil_ap, brk_ap, cnt_ap, give_val, give_own, give_ali, take_val, take_own, take_ali, ta_nil, ta_cons, pk_val, pk_own, pk_ali, pa_nil', pa_cons', var_ap, lit_ap, op_ap, un_ap, cb_ap, lc_ap, ln_ap, tup_ap, lst_ap, cv_ap, ck_ap, cl_ap, and_ap, or_ap, not_ap, eif_ap, bval_ap, bnot_ap, band_ap, bor_ap, gnam_ap, gtup_ap, gend_ap, gcons_ap, rng_ap, for_ap, loop_nil, setIx_ap, run_ap, M.ret, unpk, asB, back, retS, fit_of, sInt, sBl, fIx, fLen, fAbs, fInt, fList, Mi.isNon, fIsN, fNotN, fCmp, fLt, fLe, fGt, fGe, fAdd, fSub, fNeg, O.frz, Mi.pick, List.getElem?_cons_zero, List.getElem?_cons_succ, List.getElem?_nil, List.set_cons_zero, List.set_cons_succ, List.map_cons, List.map_nil, List.length_cons, List.length_nil, List.replicate_succ, List.replicate_zero, List.cons_append, List.nil_append, Option.map_some, Option.map_none, if_true, if_false, Bool.false_eq_true, Bool.not_true, Bool.not_false, decide_true, decide_false, reduceIte, ne_eq, not_true_eq_false, not_false_eq_true, List.getD_cons_zero, List.getD_cons_succ, Nat.reduceAdd, Nat.reduceSub, Nat.reduceLeDiff, Nat.reduceEqDiff, atI_0, atI_1, atI_2, lam_ap, append_ap, make_ap, setF_ap, own_ap, meth_ap, methD_ap, norm_val, norm_own, norm_ali, onMethD_ap, onMeth_val, onMeth_ali, lz_ap, raise_ap, try_ap, thunk_raw, thunk_exc, byes_ap, Mi.insAt, lendTo, hand, eChain, Mi.isL, onL, okFl]
  rfl
theorem place_ok (p : Pt) : f_is_place [.val (pT p)] = .ok (.val (.bl (nr p)), [.non]) := by
  have e1 : fIsi isT [pT p, .tup [.ty "list", .ty "tuple"]] = some (.val (.bl true)) := rfl
  have e2 : fNe (D.int ((2 : Nat) : Int)) (D.int 2) = some (.val (.bl false)) := by rw [Mi.ne_int]; rfl
  rw [f_is_place, run_ap]
  simp only [m_is_place, pT, bnd_ap, of_ap, seq_ap, asg_ap, ret_ap, retN_ap, sif_ap, expr_ap, par_ap, par3_ap, asgT_ap, nil_ap, brk_ap, cnt_ap, give_val, give_own, give_ali, take_val, take_own, take_ali, ta_nil, ta_cons, pk_val, pk_own, pk_ali, pa_nil', pa_cons', var_ap, lit_ap, op_ap, un_ap, cb_ap, lc_ap, ln_ap, tup_ap, lst_ap, cv_ap, ck_ap, cl_ap, and_ap, or_ap, not_ap, eif_ap, bval_ap, bnot_ap, band_ap, bor_ap, gnam_ap, gtup_ap, gend_ap, gcons_ap, rng_ap, for_ap, loop_nil, setIx_ap, run_ap, M.ret, unpk, asB, back, retS, fit_of, sInt, sBl, fIx, fLen, fAbs, fInt, fList, Mi.isNon, fIsN, fNotN, fCmp, fLt, fLe, fGt, fGe, fAdd, fSub, fNeg, O.frz, Mi.pick, List.getElem?_cons_zero, List.getElem?_cons_succ, List.getElem?_nil, List.set_cons_zero, List.set_cons_succ, List.map_cons, List.map_nil, List.length_cons, List.length_nil, List.replicate_succ, List.replicate_zero, List.cons_append, List.nil_append, Option.map_some, Option.map_none, if_true, if_false, Bool.false_eq_true, Bool.not_true, Bool.not_false, decide_true, decide_false, reduceIte, ne_eq, not_true_eq_false, not_false_eq_true, List.getD_cons_zero, List.getD_cons_succ, Nat.reduceAdd, Nat.reduceSub, Nat.reduceLeDiff, Nat.reduceEqDiff, atI_0, atI_1, atI_2, lam_ap, append_ap, make_ap, setF_ap, own_ap, meth_ap, methD_ap, norm_val, norm_own, norm_ali, onMethD_ap, onMeth_val, onMeth_ali, lz_ap, raise_ap, try_ap, thunk_raw, thunk_exc, byes_ap, Mi.insAt, lendTo, hand, eChain, Mi.isL, onL, okFl]
  simp only [pT] at e1
  have c := ecomp_map (own := [1]) (mi := iSeq (eVar 0)) (g := gNam 1) (me := eCallV f_is_within (lCons (eVar 1) (lCons (eUn fNeg (eLit (.int 1000000000))) (lCons (eLit (.int 1000000000)) (lNil))))) [p.1, p.2] D.int (fun i => .bl (decide (-1000000000 ≤ i) && decide (i ≤ 1000000000))) (τ := [.val (.tup [.int p.1, .int p.2]), .non]) (τ1 := [.val (.tup [.int p.1, .int p.2]), .non]) (τ0 := [.val (.tup [.int p.1, .int p.2]), .non])
    (iseq_val (.tup [.int p.1, .int p.2]) (by simp only [bnd_ap, of_ap, seq_ap, asg_ap, ret_ap, retN_ap, sif_ap, expr_ap, par_ap, par3_ap, asgT_ap, nil_ap, brk_ap, cnt_ap, give_val, give_own, give_ali, take_val, take_own, take_ali, ta_nil, ta_cons, pk_val, pk_own, pk_ali, pa_nil', pa_cons', var_ap, lit_ap, op_ap, un_ap, cb_ap, lc_ap, ln_ap, tup_ap, lst_ap, cv_ap, ck_ap, cl_ap, and_ap, or_ap, not_ap, eif_ap, bval_ap, bnot_ap, band_ap, bor_ap, gnam_ap, gtup_ap, gend_ap, gcons_ap, rng_ap, for_ap, loop_nil, setIx_ap, run_ap, M.ret, unpk, asB, back, retS, fit_of, sInt, sBl, fIx, fLen, fAbs, fInt, fList, Mi.isNon, fIsN, fNotN, fCmp, fLt, fLe, fGt, fGe, fAdd, fSub, fNeg, O.frz, Mi.pick, List.getElem?_cons_zero, List.getElem?_cons_succ, List.getElem?_nil, List.set_cons_zero, List.set_cons_succ, List.map_cons, List.map_nil, List.length_cons, List.length_nil, List.replicate_succ, List.replicate_zero, List.cons_append, List.nil_append, Option.map_some, Option.map_none, if_true, if_false, Bool.false_eq_true, Bool.not_true, Bool.not_false, decide_true, decide_false, reduceIte, ne_eq, not_true_eq_false, not_false_eq_true, List.getD_cons_zero, List.getD_cons_succ, Nat.reduceAdd, Nat.reduceSub, Nat.reduceLeDiff, Nat.reduceEqDiff, atI_0, atI_1, atI_2, lam_ap, append_ap, make_ap, setF_ap, own_ap, meth_ap, methD_ap, norm_val, norm_own, norm_ali, onMethD_ap, onMeth_val, onMeth_ali, lz_ap, raise_ap, try_ap, thunk_raw, thunk_exc, byes_ap, Mi.insAt, lendTo, hand, eChain, Mi.isL, onL, okFl]) rfl) rfl rfl (fun x _ => ⟨[.val (.tup [.int p.1, .int p.2]), .val (.int x)], [.val (.tup [.int p.1, .int p.2]), .val (.int x)], rfl, by simp only [within_ok, bnd_ap, of_ap, seq_ap, asg_ap, ret_ap, retN_ap, sif_ap, expr_ap, par_ap, par3_ap, asgT_ap, nil_ap, brk_ap, cnt_ap, give_val, give_own, give_ali, take_val, take_own, take_ali, ta_nil, ta_cons, pk_val, pk_own, pk_ali, pa_nil', pa_cons', var_ap, lit_ap, op_ap, un_ap, cb_ap, lc_ap, ln_ap, tup_ap, lst_ap, cv_ap, ck_ap, cl_ap, and_ap, or_ap, not_ap, eif_ap, bval_ap, bnot_ap, band_ap, bor_ap, gnam_ap, gtup_ap, gend_ap, gcons_ap, rng_ap, for_ap, loop_nil, setIx_ap, run_ap, M.ret, unpk, asB, back, retS, fit_of, sInt, sBl, fIx, fLen, fAbs, fInt, fList, Mi.isNon, fIsN, fNotN, fCmp, fLt, fLe, fGt, fGe, fAdd, fSub, fNeg, O.frz, Mi.pick, List.getElem?_cons_zero, List.getElem?_cons_succ, List.getElem?_nil, List.set_cons_zero, List.set_cons_succ, List.map_cons, List.map_nil, List.length_cons, List.length_nil, List.replicate_succ, List.replicate_zero, List.cons_append, List.nil_append, Option.map_some, Option.map_none, if_true, if_false, Bool.false_eq_true, Bool.not_true, Bool.not_false, decide_true, decide_false, reduceIte, ne_eq, not_true_eq_false, not_false_eq_true, List.getD_cons_zero, List.getD_cons_succ, Nat.reduceAdd, Nat.reduceSub, Nat.reduceLeDiff, Nat.reduceEqDiff, atI_0, atI_1, atI_2, lam_ap, append_ap, make_ap, setF_ap, own_ap, meth_ap, methD_ap, norm_val, norm_own, norm_ali, onMethD_ap, onMeth_val, onMeth_ali, lz_ap, raise_ap, try_ap, thunk_raw, thunk_exc, byes_ap, Mi.insAt, lendTo, hand, eChain, Mi.isL, onL, okFl], rfl⟩) (by simp) rfl
  have e4 : ∀ a b : Bool, fAll [.lst [.bl a, .bl b]] = some (.val (.bl (a && b))) := fun a b => by cases a <;> cases b <;> rfl
  simp only [e1, e2, c, e4, nr, bnd_ap, of_ap, seq_ap, asg_ap, ret_ap, retN_ap, sif_ap, expr_ap, par_ap, par3_ap, asgT_ap, nil_ap, brk_ap, cnt_ap, give_val, give_own, give_ali, take_val, take_own, take_ali, ta_nil, ta_cons, pk_val, pk_own, pk_ali, pa_nil', pa_cons', var_ap, lit_ap, op_ap, un_ap, cb_ap, lc_ap, ln_ap, tup_ap, lst_ap, cv_ap, ck_ap, cl_ap, and_ap, or_ap, not_ap, eif_ap, bval_ap, bnot_ap, band_ap, bor_ap, gnam_ap, gtup_ap, gend_ap, gcons_ap, rng_ap, for_ap, loop_nil, setIx_ap, run_ap, M.ret, unpk, asB, back, retS, fit_of, sInt, sBl, fIx, fLen, fAbs, fInt, fList, Mi.isNon, fIsN, fNotN, fCmp, fLt, fLe, fGt, fGe, fAdd, fSub, fNeg, O.frz, Mi.pick, List.getElem?_cons_zero, List.getElem?_cons_succ, List.getElem?_nil, List.set_cons_zero, List.set_cons_succ, List.map_cons, List.map_nil, List.length_cons, List.length_nil, List.replicate_succ, List.replicate_zero, List.cons_append, List.nil_append, Option.map_some, Option.map_none, if_true, if_false, Bool.false_eq_true, Bool.not_true, Bool.not_false, decide_true, decide_false, reduceIte, ne_eq, not_true_eq_false, not_false_eq_true, List.getD_cons_zero, List.getD_cons_succ, Nat.reduceAdd, Nat.reduceSub, Nat.reduceLeDiff, Nat.reduceEqDiff, atI_0, atI_1, atI_2, lam_ap, append_ap, make_ap, setF_ap, own_ap, meth_ap, methD_ap, norm_val, norm_own, norm_ali, onMethD_ap, onMeth_val, onMeth_ali, lz_ap, raise_ap, try_ap, thunk_raw, thunk_exc, byes_ap, Mi.insAt, lendTo, hand, eChain, Mi.isL, onL, okFl]
  rfl
theorem bools_map (P : List Pt) : bools (P.map fun p => D.bl (nr p)) = some (P.map nr) := by
  induction P with
  | nil => rfl
  | cons p P ih => simp only [List.map_cons, bools, ih, Option.map_some]
theorem all_map (P : List Pt) : fAll [.lst (P.map fun p => D.bl (nr p))] = some (.val (.bl (P.all nr))) := by
  simp only [fAll, bools_map, Option.map_some, List.all_map]
  rfl
theorem places_ok {d : D} (P : List Pt) (hd : d = .lst (P.map pT) ∨ d = .tup (P.map pT)) (hl : P.length ≤ 1000) : f_are_places [.val d] = .ok (.val (.bl (P.all nr)), [.non]) := by
  have e1 : fIsi isT [d, .tup [.ty "list", .ty "tuple"]] = some (.val (.bl true)) := by rcases hd with rfl | rfl <;> rfl
  have hi : items d = some (P.map pT) := by rcases hd with rfl | rfl <;> rfl
  rw [f_are_places, run_ap]
  have c := ecomp_map (own := [1]) (mi := iSeq (eVar 0)) (g := gNam 1) (me := eCallV f_is_place (lCons (eVar 1) (lNil))) P pT (fun p => .bl (nr p)) (τ := [.val d, .non]) (τ1 := [.val d, .non]) (τ0 := [.val d, .non])
    (iseq_val d (by simp only [bnd_ap, of_ap, seq_ap, asg_ap, ret_ap, retN_ap, sif_ap, expr_ap, par_ap, par3_ap, asgT_ap, nil_ap, brk_ap, cnt_ap, give_val, give_own, give_ali, take_val, take_own, take_ali, ta_nil, ta_cons, pk_val, pk_own, pk_ali, pa_nil', pa_cons', var_ap, lit_ap, op_ap, un_ap, cb_ap, lc_ap, ln_ap, tup_ap, lst_ap, cv_ap, ck_ap, cl_ap, and_ap, or_ap, not_ap, eif_ap, bval_ap, bnot_ap, band_ap, bor_ap, gnam_ap, gtup_ap, gend_ap, gcons_ap, rng_ap, for_ap, loop_nil, setIx_ap, run_ap, M.ret, unpk, asB, back, retS, fit_of, sInt, sBl, fIx, fLen, fAbs, fInt, fList, Mi.isNon, fIsN, fNotN, fCmp, fLt, fLe, fGt, fGe, fAdd, fSub, fNeg, O.frz, Mi.pick, List.getElem?_cons_zero, List.getElem?_cons_succ, List.getElem?_nil, List.set_cons_zero, List.set_cons_succ, List.map_cons, List.map_nil, List.length_cons, List.length_nil, List.replicate_succ, List.replicate_zero, List.cons_append, List.nil_append, Option.map_some, Option.map_none, if_true, if_false, Bool.false_eq_true, Bool.not_true, Bool.not_false, decide_true, decide_false, reduceIte, ne_eq, not_true_eq_false, not_false_eq_true, List.getD_cons_zero, List.getD_cons_succ, Nat.reduceAdd, Nat.reduceSub, Nat.reduceLeDiff, Nat.reduceEqDiff, atI_0, atI_1, atI_2, lam_ap, append_ap, make_ap, setF_ap, own_ap, meth_ap, methD_ap, norm_val, norm_own, norm_ali, onMethD_ap, onMeth_val, onMeth_ali, lz_ap, raise_ap, try_ap, thunk_raw, thunk_exc, byes_ap, Mi.insAt, lendTo, hand, eChain, Mi.isL, onL, okFl]) hi) rfl rfl (fun x _ => ⟨[.val d, .val (pT x)], [.val d, .val (pT x)], rfl, by simp only [place_ok, bnd_ap, of_ap, seq_ap, asg_ap, ret_ap, retN_ap, sif_ap, expr_ap, par_ap, par3_ap, asgT_ap, nil_ap, brk_ap, cnt_ap, give_val, give_own, give_ali, take_val, take_own, take_ali, ta_nil, ta_cons, pk_val, pk_own, pk_ali, pa_nil', pa_cons', var_ap, lit_ap, op_ap, un_ap, cb_ap, lc_ap, ln_ap, tup_ap, lst_ap, cv_ap, ck_ap, cl_ap, and_ap, or_ap, not_ap, eif_ap, bval_ap, bnot_ap, band_ap, bor_ap, gnam_ap, gtup_ap, gend_ap, gcons_ap, rng_ap, for_ap, loop_nil, setIx_ap, run_ap, M.ret, unpk, asB, back, retS, fit_of, sInt, sBl, fIx, fLen, fAbs, fInt, fList, Mi.isNon, fIsN, fNotN, fCmp, fLt, fLe, fGt, fGe, fAdd, fSub, fNeg, O.frz, Mi.pick, List.getElem?_cons_zero, List.getElem?_cons_succ, List.getElem?_nil, List.set_cons_zero, List.set_cons_succ, List.map_cons, List.map_nil, List.length_cons, List.length_nil, List.replicate_succ, List.replicate_zero, List.cons_append, List.nil_append, Option.map_some, Option.map_none, if_true, if_false, Bool.false_eq_true, Bool.not_true, Bool.not_false, decide_true, decide_false, reduceIte, ne_eq, not_true_eq_false, not_false_eq_true, List.getD_cons_zero, List.getD_cons_succ, Nat.reduceAdd, Nat.reduceSub, Nat.reduceLeDiff, Nat.reduceEqDiff, atI_0, atI_1, atI_2, lam_ap, append_ap, make_ap, setF_ap, own_ap, meth_ap, methD_ap, norm_val, norm_own, norm_ali, onMethD_ap, onMeth_val, onMeth_ali, lz_ap, raise_ap, try_ap, thunk_raw, thunk_exc, byes_ap, Mi.insAt, lendTo, hand, eChain, Mi.isL, onL, okFl], rfl⟩) hl rfl
  simp only [m_are_places, e1, c, all_map, bnd_ap, of_ap, seq_ap, asg_ap, ret_ap, retN_ap, sif_ap, expr_ap, par_ap, par3_ap, asgT_ap, nil_ap, brk_ap, cnt_ap, give_val, give_own, give_ali, take_val, take_own, take_ali, ta_nil, ta_cons, pk_val, pk_own, pk_ali, pa_nil', pa_cons', var_ap, lit_ap, op_ap, un_ap, cb_ap, lc_ap, ln_ap, tup_ap, lst_ap, cv_ap, ck_ap, cl_ap, and_ap, or_ap, not_ap, eif_ap, bval_ap, bnot_ap, band_ap, bor_ap, gnam_ap, gtup_ap, gend_ap, gcons_ap, rng_ap, for_ap, loop_nil, setIx_ap, run_ap, M.ret, unpk, asB, back, retS, fit_of, sInt, sBl, fIx, fLen, fAbs, fInt, fList, Mi.isNon, fIsN, fNotN, fCmp, fLt, fLe, fGt, fGe, fAdd, fSub, fNeg, O.frz, Mi.pick, List.getElem?_cons_zero, List.getElem?_cons_succ, List.getElem?_nil, List.set_cons_zero, List.set_cons_succ, List.map_cons, List.map_nil, List.length_cons, List.length_nil, List.replicate_succ, List.replicate_zero, List.cons_append, List.nil_append, Option.map_some, Option.map_none, if_true, if_false, Bool.false_eq_true, Bool.not_true, Bool.not_false, decide_true, decide_false, reduceIte, ne_eq, not_true_eq_false, not_false_eq_true, List.getD_cons_zero, List.getD_cons_succ, Nat.reduceAdd, Nat.reduceSub, Nat.reduceLeDiff, Nat.reduceEqDiff, atI_0, atI_1, atI_2, lam_ap, append_ap, make_ap, setF_ap, own_ap, meth_ap, methD_ap, norm_val, norm_own, norm_ali, onMethD_ap, onMeth_val, onMeth_ali, lz_ap, raise_ap, try_ap, thunk_raw, thunk_exc, byes_ap, Mi.insAt, lendTo, hand, eChain, Mi.isL, onL, okFl]
  rfl
/-! its fields -/
def xsD (P : List Pt) : D := .tup (P.tail.map fun p => .int (p.1 - (P.headD (0, 0)).1))
def ysD (P : List Pt) : D := .tup (P.tail.map fun p => .int (p.2 - (P.headD (0, 0)).2))
def pf (P : List Pt) : List (Str × D) := [("places", .tup (P.map pT)), ("pins", .int P.length), ("rows", .tup [xsD P, ysD P])]
def pO (P : List Pt) : O := .ins "Picture" (pf P)
def pic (P : List Pt) : D := .ins "Picture" (pf P)
theorem tail_cut (P : List Pt) (h : P ≠ []) : fSl (.tup (P.map pT)) (some 1) none = some (.val (.tup (P.tail.map pT))) := by
  cases P with
  | nil => exact absurd rfl h
  | cons p P =>
    have e1 : HT.sIx ((p :: P).map pT).length 0 (some 1) = 1 := by
      have := HT.sIx_nat ((p :: P).map pT).length 0 1
      rw [show ((1 : Nat) : Int) = 1 from rfl] at this
      rw [this]
      simp only [List.length_map, List.length_cons]
      omega
    have e2 : HT.sIx ((p :: P).map pT).length ((p :: P).map pT).length none = ((p :: P).map pT).length := HT.sIx_none _ _
    simp only [fSl, e1, e2]
    rw [if_neg (by omega)]
    unfold cut
    rw [e1, e2]
    simp only [List.map_cons, List.drop_succ_cons, List.drop_zero, List.length_cons, List.length_map, List.tail_cons]
    rw [List.take_of_length_le (by simp)]
theorem rows_ok (P : List Pt) (h : P ≠ []) (hl : P.length ≤ 1000) : f_rows_of [.val (.tup (P.map pT))] = .ok (.val (.tup [xsD P, ysD P]), [.non]) := by
  have hc := tail_cut P h
  obtain ⟨p, r, rfl⟩ := List.exists_cons_of_ne_nil h
  simp only [List.map_cons, List.tail_cons] at hc
  have e0 : fIx (.tup (pT p :: r.map pT)) (.int 0) = some (.val (pT p)) := by simp only [fIx, atI_0, Option.map_some]
  have hr : r.length ≤ 1000 := by simp only [List.length_cons] at hl; omega
  have e1 : ∀ x : Pt, fIx (pT x) (.int 0) = some (.val (.int x.1)) := fun x => by simp only [pT, fIx, atI_0, Option.map_some]
  have e2 : ∀ x : Pt, fIx (pT x) (.int 1) = some (.val (.int x.2)) := fun x => by simp only [pT, fIx, atI_1, Option.map_some]
  rw [f_rows_of, run_ap]
  have c1 := fun (s : Mi.S) => ecomp_map (own := [3]) (mi := iSeq (eSl (eVar 0) (pSome (eLit (.int 1))) pNone)) (g := gNam 3) (me := eOp fSub (eOp fIx (eVar 3) (eLit (.int 0))) (eVar 1)) r pT (fun x => .int (x.1 - p.1)) (τ := [.val (.tup (pT p :: r.map pT)), .val (.int p.1), .val (.int p.2), s]) (τ1 := [.val (.tup (pT p :: r.map pT)), .val (.int p.1), .val (.int p.2), s]) (τ0 := [.val (.tup (pT p :: r.map pT)), .val (.int p.1), .val (.int p.2), .non])
    (iseq_val (.tup (r.map pT)) (by simp only [eSl, pNone, pSome, asI, hc, bnd_ap, of_ap, seq_ap, asg_ap, ret_ap, retN_ap, sif_ap, expr_ap, par_ap, par3_ap, asgT_ap, nil_ap, brk_ap, cnt_ap, give_val, give_own, give_ali, take_val, take_own, take_ali, ta_nil, ta_cons, pk_val, pk_own, pk_ali, pa_nil', pa_cons', var_ap, lit_ap, op_ap, un_ap, cb_ap, lc_ap, ln_ap, tup_ap, lst_ap, cv_ap, ck_ap, cl_ap, and_ap, or_ap, not_ap, eif_ap, bval_ap, bnot_ap, band_ap, bor_ap, gnam_ap, gtup_ap, gend_ap, gcons_ap, rng_ap, for_ap, loop_nil, setIx_ap, run_ap, M.ret, unpk, asB, back, retS, fit_of, sInt, sBl, fIx, fLen, fAbs, fInt, fList, Mi.isNon, fIsN, fNotN, fCmp, fLt, fLe, fGt, fGe, fAdd, fSub, fNeg, O.frz, Mi.pick, List.getElem?_cons_zero, List.getElem?_cons_succ, List.getElem?_nil, List.set_cons_zero, List.set_cons_succ, List.map_cons, List.map_nil, List.length_cons, List.length_nil, List.replicate_succ, List.replicate_zero, List.cons_append, List.nil_append, Option.map_some, Option.map_none, if_true, if_false, Bool.false_eq_true, Bool.not_true, Bool.not_false, decide_true, decide_false, reduceIte, ne_eq, not_true_eq_false, not_false_eq_true, List.getD_cons_zero, List.getD_cons_succ, Nat.reduceAdd, Nat.reduceSub, Nat.reduceLeDiff, Nat.reduceEqDiff, atI_0, atI_1, atI_2, lam_ap, append_ap, make_ap, setF_ap, own_ap, meth_ap, methD_ap, norm_val, norm_own, norm_ali, onMethD_ap, onMeth_val, onMeth_ali, lz_ap, raise_ap, try_ap, thunk_raw, thunk_exc, byes_ap, Mi.insAt, lendTo, hand, eChain, Mi.isL, onL, okFl]) rfl)
  have c2 := fun (s : Mi.S) => ecomp_map (own := [3]) (mi := iSeq (eSl (eVar 0) (pSome (eLit (.int 1))) pNone)) (g := gNam 3) (me := eOp fSub (eOp fIx (eVar 3) (eLit (.int 1))) (eVar 2)) r pT (fun x => .int (x.2 - p.2)) (τ := [.val (.tup (pT p :: r.map pT)), .val (.int p.1), .val (.int p.2), s]) (τ1 := [.val (.tup (pT p :: r.map pT)), .val (.int p.1), .val (.int p.2), s]) (τ0 := [.val (.tup (pT p :: r.map pT)), .val (.int p.1), .val (.int p.2), .non])
    (iseq_val (.tup (r.map pT)) (by simp only [eSl, pNone, pSome, asI, hc, bnd_ap, of_ap, seq_ap, asg_ap, ret_ap, retN_ap, sif_ap, expr_ap, par_ap, par3_ap, asgT_ap, nil_ap, brk_ap, cnt_ap, give_val, give_own, give_ali, take_val, take_own, take_ali, ta_nil, ta_cons, pk_val, pk_own, pk_ali, pa_nil', pa_cons', var_ap, lit_ap, op_ap, un_ap, cb_ap, lc_ap, ln_ap, tup_ap, lst_ap, cv_ap, ck_ap, cl_ap, and_ap, or_ap, not_ap, eif_ap, bval_ap, bnot_ap, band_ap, bor_ap, gnam_ap, gtup_ap, gend_ap, gcons_ap, rng_ap, for_ap, loop_nil, setIx_ap, run_ap, M.ret, unpk, asB, back, retS, fit_of, sInt, sBl, fIx, fLen, fAbs, fInt, fList, Mi.isNon, fIsN, fNotN, fCmp, fLt, fLe, fGt, fGe, fAdd, fSub, fNeg, O.frz, Mi.pick, List.getElem?_cons_zero, List.getElem?_cons_succ, List.getElem?_nil, List.set_cons_zero, List.set_cons_succ, List.map_cons, List.map_nil, List.length_cons, List.length_nil, List.replicate_succ, List.replicate_zero, List.cons_append, List.nil_append, Option.map_some, Option.map_none, if_true, if_false, Bool.false_eq_true, Bool.not_true, Bool.not_false, decide_true, decide_false, reduceIte, ne_eq, not_true_eq_false, not_false_eq_true, List.getD_cons_zero, List.getD_cons_succ, Nat.reduceAdd, Nat.reduceSub, Nat.reduceLeDiff, Nat.reduceEqDiff, atI_0, atI_1, atI_2, lam_ap, append_ap, make_ap, setF_ap, own_ap, meth_ap, methD_ap, norm_val, norm_own, norm_ali, onMethD_ap, onMeth_val, onMeth_ali, lz_ap, raise_ap, try_ap, thunk_raw, thunk_exc, byes_ap, Mi.insAt, lendTo, hand, eChain, Mi.isL, onL, okFl]) rfl)
  have d1 := c1 .non rfl rfl (fun x _ => ⟨[.val (.tup (pT p :: r.map pT)), .val (.int p.1), .val (.int p.2), .val (pT x)], [.val (.tup (pT p :: r.map pT)), .val (.int p.1), .val (.int p.2), .val (pT x)], rfl, by simp only [pT, e1, bnd_ap, of_ap, seq_ap, asg_ap, ret_ap, retN_ap, sif_ap, expr_ap, par_ap, par3_ap, asgT_ap, nil_ap, brk_ap, cnt_ap, give_val, give_own, give_ali, take_val, take_own, take_ali, ta_nil, ta_cons, pk_val, pk_own, pk_ali, pa_nil', pa_cons', var_ap, lit_ap, op_ap, un_ap, cb_ap, lc_ap, ln_ap, tup_ap, lst_ap, cv_ap, ck_ap, cl_ap, and_ap, or_ap, not_ap, eif_ap, bval_ap, bnot_ap, band_ap, bor_ap, gnam_ap, gtup_ap, gend_ap, gcons_ap, rng_ap, for_ap, loop_nil, setIx_ap, run_ap, M.ret, unpk, asB, back, retS, fit_of, sInt, sBl, fIx, fLen, fAbs, fInt, fList, Mi.isNon, fIsN, fNotN, fCmp, fLt, fLe, fGt, fGe, fAdd, fSub, fNeg, O.frz, Mi.pick, List.getElem?_cons_zero, List.getElem?_cons_succ, List.getElem?_nil, List.set_cons_zero, List.set_cons_succ, List.map_cons, List.map_nil, List.length_cons, List.length_nil, List.replicate_succ, List.replicate_zero, List.cons_append, List.nil_append, Option.map_some, Option.map_none, if_true, if_false, Bool.false_eq_true, Bool.not_true, Bool.not_false, decide_true, decide_false, reduceIte, ne_eq, not_true_eq_false, not_false_eq_true, List.getD_cons_zero, List.getD_cons_succ, Nat.reduceAdd, Nat.reduceSub, Nat.reduceLeDiff, Nat.reduceEqDiff, atI_0, atI_1, atI_2, lam_ap, append_ap, make_ap, setF_ap, own_ap, meth_ap, methD_ap, norm_val, norm_own, norm_ali, onMethD_ap, onMeth_val, onMeth_ali, lz_ap, raise_ap, try_ap, thunk_raw, thunk_exc, byes_ap, Mi.insAt, lendTo, hand, eChain, Mi.isL, onL, okFl], rfl⟩) hr rfl
  have d2 := c2 .non rfl rfl (fun x _ => ⟨[.val (.tup (pT p :: r.map pT)), .val (.int p.1), .val (.int p.2), .val (pT x)], [.val (.tup (pT p :: r.map pT)), .val (.int p.1), .val (.int p.2), .val (pT x)], rfl, by simp only [pT, e2, bnd_ap, of_ap, seq_ap, asg_ap, ret_ap, retN_ap, sif_ap, expr_ap, par_ap, par3_ap, asgT_ap, nil_ap, brk_ap, cnt_ap, give_val, give_own, give_ali, take_val, take_own, take_ali, ta_nil, ta_cons, pk_val, pk_own, pk_ali, pa_nil', pa_cons', var_ap, lit_ap, op_ap, un_ap, cb_ap, lc_ap, ln_ap, tup_ap, lst_ap, cv_ap, ck_ap, cl_ap, and_ap, or_ap, not_ap, eif_ap, bval_ap, bnot_ap, band_ap, bor_ap, gnam_ap, gtup_ap, gend_ap, gcons_ap, rng_ap, for_ap, loop_nil, setIx_ap, run_ap, M.ret, unpk, asB, back, retS, fit_of, sInt, sBl, fIx, fLen, fAbs, fInt, fList, Mi.isNon, fIsN, fNotN, fCmp, fLt, fLe, fGt, fGe, fAdd, fSub, fNeg, O.frz, Mi.pick, List.getElem?_cons_zero, List.getElem?_cons_succ, List.getElem?_nil, List.set_cons_zero, List.set_cons_succ, List.map_cons, List.map_nil, List.length_cons, List.length_nil, List.replicate_succ, List.replicate_zero, List.cons_append, List.nil_append, Option.map_some, Option.map_none, if_true, if_false, Bool.false_eq_true, Bool.not_true, Bool.not_false, decide_true, decide_false, reduceIte, ne_eq, not_true_eq_false, not_false_eq_true, List.getD_cons_zero, List.getD_cons_succ, Nat.reduceAdd, Nat.reduceSub, Nat.reduceLeDiff, Nat.reduceEqDiff, atI_0, atI_1, atI_2, lam_ap, append_ap, make_ap, setF_ap, own_ap, meth_ap, methD_ap, norm_val, norm_own, norm_ali, onMethD_ap, onMeth_val, onMeth_ali, lz_ap, raise_ap, try_ap, thunk_raw, thunk_exc, byes_ap, Mi.insAt, lendTo, hand, eChain, Mi.isL, onL, okFl], rfl⟩) hr rfl
  have rt : restT [3] [.val (.tup (pT p :: r.map pT)), .val (.int p.1), .val (.int p.2), .non] [.val (.tup (pT p :: r.map pT)), .val (.int p.1), .val (.int p.2), .non] = [.val (.tup (pT p :: r.map pT)), .val (.int p.1), .val (.int p.2), .non] := rfl
  rw [rt] at d1 d2
  have e3 : unpk 2 (pT p) = some [.int p.1, .int p.2] := rfl
  simp only [pT, m_rows_of, List.map_cons, e0, e3, d1, d2, fTuple, xsD, ysD, List.tail_cons, List.headD_cons, bnd_ap, of_ap, seq_ap, asg_ap, ret_ap, retN_ap, sif_ap, expr_ap, par_ap, par3_ap, asgT_ap, nil_ap, brk_ap, cnt_ap, give_val, give_own, give_ali, take_val, take_own, take_ali, ta_nil, ta_cons, pk_val, pk_own, pk_ali, pa_nil', pa_cons', var_ap, lit_ap, op_ap, un_ap, cb_ap, lc_ap, ln_ap, tup_ap, lst_ap, cv_ap, ck_ap, cl_ap, and_ap, or_ap, not_ap, eif_ap, bval_ap, bnot_ap, band_ap, bor_ap, gnam_ap, gtup_ap, gend_ap, gcons_ap, rng_ap, for_ap, loop_nil, setIx_ap, run_ap, M.ret, unpk, asB, back, retS, fit_of, sInt, sBl, fIx, fLen, fAbs, fInt, fList, Mi.isNon, fIsN, fNotN, fCmp, fLt, fLe, fGt, fGe, fAdd, fSub, fNeg, O.frz, Mi.pick, List.getElem?_cons_zero, List.getElem?_cons_succ, List.getElem?_nil, List.set_cons_zero, List.set_cons_succ, List.map_cons, List.map_nil, List.length_cons, List.length_nil, List.replicate_succ, List.replicate_zero, List.cons_append, List.nil_append, Option.map_some, Option.map_none, if_true, if_false, Bool.false_eq_true, Bool.not_true, Bool.not_false, decide_true, decide_false, reduceIte, ne_eq, not_true_eq_false, not_false_eq_true, List.getD_cons_zero, List.getD_cons_succ, Nat.reduceAdd, Nat.reduceSub, Nat.reduceLeDiff, Nat.reduceEqDiff, atI_0, atI_1, atI_2, lam_ap, append_ap, make_ap, setF_ap, own_ap, meth_ap, methD_ap, norm_val, norm_own, norm_ali, onMethD_ap, onMeth_val, onMeth_ali, lz_ap, raise_ap, try_ap, thunk_raw, thunk_exc, byes_ap, Mi.insAt, lendTo, hand, eChain, Mi.isL, onL, okFl]
end K12

namespace K12
open PySem PySem.Spec PyProof.Rows L2 Mi
/-! #### a picture made -/
theorem on_places (d : D) (r : List Mi.S) : onI 0 "places" sc_places d (.lent 0 (.ins "Picture" []) :: r) = .ok ((), .lent 0 (.ins "Picture" [("places", d)]) :: r) := rfl
theorem on_pins (p d : D) (r : List Mi.S) : onI 0 "pins" sc_pins d (.lent 0 (.ins "Picture" [("places", p)]) :: r) = .ok ((), .lent 0 (.ins "Picture" [("places", p), ("pins", d)]) :: r) := rfl
theorem on_rows (p q d : D) (r : List Mi.S) : onI 0 "rows" sc_rows d (.lent 0 (.ins "Picture" [("places", p), ("pins", q)]) :: r) = .ok ((), .lent 0 (.ins "Picture" [("places", p), ("pins", q), ("rows", d)]) :: r) := rfl
theorem fld_2 (p q : D) : fldD "places" is_places es_places (.ins "Picture" [("places", p), ("pins", q)]) = some (.val p) := rfl
def Ok (P : List Pt) : Prop := 4 ≤ P.length ∧ P.length ≤ 7
theorem Ok.ne {P : List Pt} (h : Ok P) : P ≠ [] := fun z => by
  have := h.1
  rw [z] at this
  simp at this
theorem init_ok (P : List Pt) (h : Ok P) (hn : P.all nr = true) : f_Picture____init__ [.lent 0 (.ins "Picture" []), .val (.lst (P.map pT))] = .ok (.val .non, [.lent 0 (pO P), .non]) := by
  have e1 := places_ok (d := .lst (P.map pT)) P (.inl rfl) (by have := h.2; omega)
  rw [hn] at e1
  have e2 := rows_ok P h.ne (by have := h.2; omega)
  have l1 : (4 : Int) ≤ ((P.map pT).length : Int) := by rw [List.length_map]; have := h.1; omega
  have l2 : ((P.map pT).length : Int) ≤ 7 := by rw [List.length_map]; have := h.2; omega
  have ll : ((P.map pT).length : Int) = (P.length : Int) := by rw [List.length_map]
  have c := fun o : O => ecomp_map (own := [2]) (mi := iSeq (eVar 1)) (g := gNam 2) (me := eCB fTuple (lCons (eVar 2) lNil)) P pT pT (τ := [.lent 0 o, .val (.lst (P.map pT)), .non]) (τ1 := [.lent 0 o, .val (.lst (P.map pT)), .non]) (τ0 := [.lent 0 o, .val (.lst (P.map pT)), .non])
    (iseq_val (.lst (P.map pT)) (by simp only [bnd_ap, of_ap, seq_ap, asg_ap, ret_ap, retN_ap, sif_ap, expr_ap, par_ap, par3_ap, asgT_ap, nil_ap, brk_ap, cnt_ap, give_val, give_own, give_ali, take_val, take_own, take_ali, ta_nil, ta_cons, pk_val, pk_own, pk_ali, pa_nil', pa_cons', var_ap, lit_ap, op_ap, un_ap, cb_ap, lc_ap, ln_ap, tup_ap, lst_ap, cv_ap, ck_ap, cl_ap, and_ap, or_ap, not_ap, eif_ap, bval_ap, bnot_ap, band_ap, bor_ap, gnam_ap, gtup_ap, gend_ap, gcons_ap, rng_ap, for_ap, loop_nil, setIx_ap, run_ap, M.ret, unpk, asB, back, retS, fit_of, sInt, sBl, fIx, fLen, fAbs, fInt, fList, Mi.isNon, fIsN, fNotN, fCmp, fLt, fLe, fGt, fGe, fAdd, fSub, fNeg, O.frz, Mi.pick, List.getElem?_cons_zero, List.getElem?_cons_succ, List.getElem?_nil, List.set_cons_zero, List.set_cons_succ, List.map_cons, List.map_nil, List.length_cons, List.length_nil, List.replicate_succ, List.replicate_zero, List.cons_append, List.nil_append, Option.map_some, Option.map_none, if_true, if_false, Bool.false_eq_true, Bool.not_true, Bool.not_false, decide_true, decide_false, reduceIte, ne_eq, not_true_eq_false, not_false_eq_true, List.getD_cons_zero, List.getD_cons_succ, Nat.reduceAdd, Nat.reduceSub, Nat.reduceLeDiff, Nat.reduceEqDiff, atI_0, atI_1, atI_2, lam_ap, append_ap, make_ap, setF_ap, own_ap, meth_ap, methD_ap, norm_val, norm_own, norm_ali, onMethD_ap, onMeth_val, onMeth_ali, lz_ap, raise_ap, try_ap, thunk_raw, thunk_exc, byes_ap, Mi.insAt, lendTo, hand, eChain, Mi.isL, onL, okFl]) rfl) rfl rfl (fun x _ => ⟨[.lent 0 o, .val (.lst (P.map pT)), .val (pT x)], [.lent 0 o, .val (.lst (P.map pT)), .val (pT x)], rfl, by simp only [pT, fTuple, bnd_ap, of_ap, seq_ap, asg_ap, ret_ap, retN_ap, sif_ap, expr_ap, par_ap, par3_ap, asgT_ap, nil_ap, brk_ap, cnt_ap, give_val, give_own, give_ali, take_val, take_own, take_ali, ta_nil, ta_cons, pk_val, pk_own, pk_ali, pa_nil', pa_cons', var_ap, lit_ap, op_ap, un_ap, cb_ap, lc_ap, ln_ap, tup_ap, lst_ap, cv_ap, ck_ap, cl_ap, and_ap, or_ap, not_ap, eif_ap, bval_ap, bnot_ap, band_ap, bor_ap, gnam_ap, gtup_ap, gend_ap, gcons_ap, rng_ap, for_ap, loop_nil, setIx_ap, run_ap, M.ret, unpk, asB, back, retS, fit_of, sInt, sBl, fIx, fLen, fAbs, fInt, fList, Mi.isNon, fIsN, fNotN, fCmp, fLt, fLe, fGt, fGe, fAdd, fSub, fNeg, O.frz, Mi.pick, List.getElem?_cons_zero, List.getElem?_cons_succ, List.getElem?_nil, List.set_cons_zero, List.set_cons_succ, List.map_cons, List.map_nil, List.length_cons, List.length_nil, List.replicate_succ, List.replicate_zero, List.cons_append, List.nil_append, Option.map_some, Option.map_none, if_true, if_false, Bool.false_eq_true, Bool.not_true, Bool.not_false, decide_true, decide_false, reduceIte, ne_eq, not_true_eq_false, not_false_eq_true, List.getD_cons_zero, List.getD_cons_succ, Nat.reduceAdd, Nat.reduceSub, Nat.reduceLeDiff, Nat.reduceEqDiff, atI_0, atI_1, atI_2, lam_ap, append_ap, make_ap, setF_ap, own_ap, meth_ap, methD_ap, norm_val, norm_own, norm_ali, onMethD_ap, onMeth_val, onMeth_ali, lz_ap, raise_ap, try_ap, thunk_raw, thunk_exc, byes_ap, Mi.insAt, lendTo, hand, eChain, Mi.isL, onL, okFl], rfl⟩) (by have := h.2; omega) rfl
  have rt : ∀ o : O, restT [2] [.lent 0 o, .val (.lst (P.map pT)), .non] [.lent 0 o, .val (.lst (P.map pT)), .non] = [.lent 0 o, .val (.lst (P.map pT)), .non] := fun o => rfl
  simp only [rt] at c
  rw [f_Picture____init__, run_ap]
  simp only [m_Picture____init__, e1, l1, l2, c, e2, fTuple, on_places, on_pins, on_rows, fld_2, bnd_ap, of_ap, seq_ap, asg_ap, ret_ap, retN_ap, sif_ap, expr_ap, par_ap, par3_ap, asgT_ap, nil_ap, brk_ap, cnt_ap, give_val, give_own, give_ali, take_val, take_own, take_ali, ta_nil, ta_cons, pk_val, pk_own, pk_ali, pa_nil', pa_cons', var_ap, lit_ap, op_ap, un_ap, cb_ap, lc_ap, ln_ap, tup_ap, lst_ap, cv_ap, ck_ap, cl_ap, and_ap, or_ap, not_ap, eif_ap, bval_ap, bnot_ap, band_ap, bor_ap, gnam_ap, gtup_ap, gend_ap, gcons_ap, rng_ap, for_ap, loop_nil, setIx_ap, run_ap, M.ret, unpk, asB, back, retS, fit_of, sInt, sBl, fIx, fLen, fAbs, fInt, fList, Mi.isNon, fIsN, fNotN, fCmp, fLt, fLe, fGt, fGe, fAdd, fSub, fNeg, O.frz, Mi.pick, List.getElem?_cons_zero, List.getElem?_cons_succ, List.getElem?_nil, List.set_cons_zero, List.set_cons_succ, List.map_cons, List.map_nil, List.length_cons, List.length_nil, List.replicate_succ, List.replicate_zero, List.cons_append, List.nil_append, Option.map_some, Option.map_none, if_true, if_false, Bool.false_eq_true, Bool.not_true, Bool.not_false, decide_true, decide_false, reduceIte, ne_eq, not_true_eq_false, not_false_eq_true, List.getD_cons_zero, List.getD_cons_succ, Nat.reduceAdd, Nat.reduceSub, Nat.reduceLeDiff, Nat.reduceEqDiff, atI_0, atI_1, atI_2, lam_ap, append_ap, make_ap, setF_ap, own_ap, meth_ap, methD_ap, norm_val, norm_own, norm_ali, onMethD_ap, onMeth_val, onMeth_ali, lz_ap, raise_ap, try_ap, thunk_raw, thunk_exc, byes_ap, Mi.insAt, lendTo, hand, eChain, Mi.isL, onL, okFl]
  rw [List.length_map]
  rfl
theorem mk_ok {ms : M (List Mi.S)} {τ τ1 τ2 : List Mi.S} {s : Mi.S} (P : List Pt) (h : Ok P) (hn : P.all nr = true) (h1 : ms τ = .ok ([s], τ1)) (h2 : take s τ1 = .ok (.lst (P.map pT), τ2)) : eMake "Picture" f_Picture____init__ ms τ = .ok (.own (pO P), τ2) := by
  have e := init_ok P h hn
  simp only [make_ap, bnd_ap, h1, ta_cons, ta_nil, h2, M.ret, List.map_cons, List.map_nil, e]
/-- what changed places come to -/
def res (P : List Pt) (out : List Mi.S) : R (Mi.S × List Mi.S) := if P.all nr = true then .ok (.own (pO P), out) else .exc "TooMany" [("most", .int 1000000000), ("what", .str "places")] out
theorem changed_ok (P : List Pt) (h : Ok P) : f_changed [.val (.lst (P.map pT))] = res P [.non] := by
  have e1 := places_ok (d := .lst (P.map pT)) P (.inl rfl) (by have := h.2; omega)
  rw [f_changed, run_ap]
  by_cases hn : P.all nr = true
  · rw [hn] at e1
    have e2 : eMake "Picture" f_Picture____init__ (lCons (eVar 0) lNil) [.val (.lst (P.map pT))] = .ok (.own (pO P), [.val (.lst (P.map pT))]) := mk_ok P h hn (s := .val (.lst (P.map pT))) (τ1 := [.val (.lst (P.map pT))]) (by simp only [bnd_ap, of_ap, seq_ap, asg_ap, ret_ap, retN_ap, sif_ap, expr_ap, par_ap, par3_ap, asgT_ap, nil_ap, brk_ap, cnt_ap, give_val, give_own, give_ali, take_val, take_own, take_ali, ta_nil, ta_cons, pk_val, pk_own, pk_ali, pa_nil', pa_cons', var_ap, lit_ap, op_ap, un_ap, cb_ap, lc_ap, ln_ap, tup_ap, lst_ap, cv_ap, ck_ap, cl_ap, and_ap, or_ap, not_ap, eif_ap, bval_ap, bnot_ap, band_ap, bor_ap, gnam_ap, gtup_ap, gend_ap, gcons_ap, rng_ap, for_ap, loop_nil, setIx_ap, run_ap, M.ret, unpk, asB, back, retS, fit_of, sInt, sBl, fIx, fLen, fAbs, fInt, fList, Mi.isNon, fIsN, fNotN, fCmp, fLt, fLe, fGt, fGe, fAdd, fSub, fNeg, O.frz, Mi.pick, List.getElem?_cons_zero, List.getElem?_cons_succ, List.getElem?_nil, List.set_cons_zero, List.set_cons_succ, List.map_cons, List.map_nil, List.length_cons, List.length_nil, List.replicate_succ, List.replicate_zero, List.cons_append, List.nil_append, Option.map_some, Option.map_none, if_true, if_false, Bool.false_eq_true, Bool.not_true, Bool.not_false, decide_true, decide_false, reduceIte, ne_eq, not_true_eq_false, not_false_eq_true, List.getD_cons_zero, List.getD_cons_succ, Nat.reduceAdd, Nat.reduceSub, Nat.reduceLeDiff, Nat.reduceEqDiff, atI_0, atI_1, atI_2, lam_ap, append_ap, make_ap, setF_ap, own_ap, meth_ap, methD_ap, norm_val, norm_own, norm_ali, onMethD_ap, onMeth_val, onMeth_ali, lz_ap, raise_ap, try_ap, thunk_raw, thunk_exc, byes_ap, Mi.insAt, lendTo, hand, eChain, Mi.isL, onL, okFl]) rfl
    simp only [m_changed, e1, e2, res, hn, bnd_ap, of_ap, seq_ap, asg_ap, ret_ap, retN_ap, sif_ap, expr_ap, par_ap, par3_ap, asgT_ap, nil_ap, brk_ap, cnt_ap, give_val, give_own, give_ali, take_val, take_own, take_ali, ta_nil, ta_cons, pk_val, pk_own, pk_ali, pa_nil', pa_cons', var_ap, lit_ap, op_ap, un_ap, cb_ap, lc_ap, ln_ap, tup_ap, lst_ap, cv_ap, ck_ap, cl_ap, and_ap, or_ap, not_ap, eif_ap, bval_ap, bnot_ap, band_ap, bor_ap, gnam_ap, gtup_ap, gend_ap, gcons_ap, rng_ap, for_ap, loop_nil, setIx_ap, run_ap, M.ret, unpk, asB, back, retS, fit_of, sInt, sBl, fIx, fLen, fAbs, fInt, fList, Mi.isNon, fIsN, fNotN, fCmp, fLt, fLe, fGt, fGe, fAdd, fSub, fNeg, O.frz, Mi.pick, List.getElem?_cons_zero, List.getElem?_cons_succ, List.getElem?_nil, List.set_cons_zero, List.set_cons_succ, List.map_cons, List.map_nil, List.length_cons, List.length_nil, List.replicate_succ, List.replicate_zero, List.cons_append, List.nil_append, Option.map_some, Option.map_none, if_true, if_false, Bool.false_eq_true, Bool.not_true, Bool.not_false, decide_true, decide_false, reduceIte, ne_eq, not_true_eq_false, not_false_eq_true, List.getD_cons_zero, List.getD_cons_succ, Nat.reduceAdd, Nat.reduceSub, Nat.reduceLeDiff, Nat.reduceEqDiff, atI_0, atI_1, atI_2, lam_ap, append_ap, make_ap, setF_ap, own_ap, meth_ap, methD_ap, norm_val, norm_own, norm_ali, onMethD_ap, onMeth_val, onMeth_ali, lz_ap, raise_ap, try_ap, thunk_raw, thunk_exc, byes_ap, Mi.insAt, lendTo, hand, eChain, Mi.isL, onL, okFl]
  · have hn' : P.all nr = false := by simpa using hn
    rw [hn'] at e1
    simp only [m_changed, e1, res, hn', bnd_ap, of_ap, seq_ap, asg_ap, ret_ap, retN_ap, sif_ap, expr_ap, par_ap, par3_ap, asgT_ap, nil_ap, brk_ap, cnt_ap, give_val, give_own, give_ali, take_val, take_own, take_ali, ta_nil, ta_cons, pk_val, pk_own, pk_ali, pa_nil', pa_cons', var_ap, lit_ap, op_ap, un_ap, cb_ap, lc_ap, ln_ap, tup_ap, lst_ap, cv_ap, ck_ap, cl_ap, and_ap, or_ap, not_ap, eif_ap, bval_ap, bnot_ap, band_ap, bor_ap, gnam_ap, gtup_ap, gend_ap, gcons_ap, rng_ap, for_ap, loop_nil, setIx_ap, run_ap, M.ret, unpk, asB, back, retS, fit_of, sInt, sBl, fIx, fLen, fAbs, fInt, fList, Mi.isNon, fIsN, fNotN, fCmp, fLt, fLe, fGt, fGe, fAdd, fSub, fNeg, O.frz, Mi.pick, List.getElem?_cons_zero, List.getElem?_cons_succ, List.getElem?_nil, List.set_cons_zero, List.set_cons_succ, List.map_cons, List.map_nil, List.length_cons, List.length_nil, List.replicate_succ, List.replicate_zero, List.cons_append, List.nil_append, Option.map_some, Option.map_none, if_true, if_false, Bool.false_eq_true, Bool.not_true, Bool.not_false, decide_true, decide_false, reduceIte, ne_eq, not_true_eq_false, not_false_eq_true, List.getD_cons_zero, List.getD_cons_succ, Nat.reduceAdd, Nat.reduceSub, Nat.reduceLeDiff, Nat.reduceEqDiff, atI_0, atI_1, atI_2, lam_ap, append_ap, make_ap, setF_ap, own_ap, meth_ap, methD_ap, norm_val, norm_own, norm_ali, onMethD_ap, onMeth_val, onMeth_ali, lz_ap, raise_ap, try_ap, thunk_raw, thunk_exc, byes_ap, Mi.insAt, lendTo, hand, eChain, Mi.isL, onL, okFl]
    first | done | rfl
/-! #### its methods: s is the picture, handed in whichever way -/
def Self (P : List Pt) (s t : Mi.S) : Prop := (s = .val (pic P) ∧ t = .non) ∨ (s = .lent 0 (pO P) ∧ t = s)
theorem fld_pl (P : List Pt) : fldD "places" is_places es_places (pic P) = some (.val (.tup (P.map pT))) := rfl
theorem fld_rw (P : List Pt) : fldD "rows" is_rows es_rows (pic P) = some (.val (.tup [xsD P, ysD P])) := rfl
theorem frz_pO (P : List Pt) : (pO P).frz = pic P := rfl
theorem places_ap {P : List Pt} {s t : Mi.S} (hs : Self P s t) (r : List Mi.S) : eUn (fldD "places" is_places es_places) (eVar 0) (s :: r) = .ok (.val (.tup (P.map pT)), s :: r) := by
  rcases hs with ⟨rfl, rfl⟩ | ⟨rfl, rfl⟩
  · simp only [fld_pl, bnd_ap, of_ap, seq_ap, asg_ap, ret_ap, retN_ap, sif_ap, expr_ap, par_ap, par3_ap, asgT_ap, nil_ap, brk_ap, cnt_ap, give_val, give_own, give_ali, take_val, take_own, take_ali, ta_nil, ta_cons, pk_val, pk_own, pk_ali, pa_nil', pa_cons', var_ap, lit_ap, op_ap, un_ap, cb_ap, lc_ap, ln_ap, tup_ap, lst_ap, cv_ap, ck_ap, cl_ap, and_ap, or_ap, not_ap, eif_ap, bval_ap, bnot_ap, band_ap, bor_ap, gnam_ap, gtup_ap, gend_ap, gcons_ap, rng_ap, for_ap, loop_nil, setIx_ap, run_ap, M.ret, unpk, asB, back, retS, fit_of, sInt, sBl, fIx, fLen, fAbs, fInt, fList, Mi.isNon, fIsN, fNotN, fCmp, fLt, fLe, fGt, fGe, fAdd, fSub, fNeg, O.frz, Mi.pick, List.getElem?_cons_zero, List.getElem?_cons_succ, List.getElem?_nil, List.set_cons_zero, List.set_cons_succ, List.map_cons, List.map_nil, List.length_cons, List.length_nil, List.replicate_succ, List.replicate_zero, List.cons_append, List.nil_append, Option.map_some, Option.map_none, if_true, if_false, Bool.false_eq_true, Bool.not_true, Bool.not_false, decide_true, decide_false, reduceIte, ne_eq, not_true_eq_false, not_false_eq_true, List.getD_cons_zero, List.getD_cons_succ, Nat.reduceAdd, Nat.reduceSub, Nat.reduceLeDiff, Nat.reduceEqDiff, atI_0, atI_1, atI_2, lam_ap, append_ap, make_ap, setF_ap, own_ap, meth_ap, methD_ap, norm_val, norm_own, norm_ali, onMethD_ap, onMeth_val, onMeth_ali, lz_ap, raise_ap, try_ap, thunk_raw, thunk_exc, byes_ap, Mi.insAt, lendTo, hand, eChain, Mi.isL, onL, okFl]
  · simp only [pO, fld_pl, bnd_ap, of_ap, seq_ap, asg_ap, ret_ap, retN_ap, sif_ap, expr_ap, par_ap, par3_ap, asgT_ap, nil_ap, brk_ap, cnt_ap, give_val, give_own, give_ali, take_val, take_own, take_ali, ta_nil, ta_cons, pk_val, pk_own, pk_ali, pa_nil', pa_cons', var_ap, lit_ap, op_ap, un_ap, cb_ap, lc_ap, ln_ap, tup_ap, lst_ap, cv_ap, ck_ap, cl_ap, and_ap, or_ap, not_ap, eif_ap, bval_ap, bnot_ap, band_ap, bor_ap, gnam_ap, gtup_ap, gend_ap, gcons_ap, rng_ap, for_ap, loop_nil, setIx_ap, run_ap, M.ret, unpk, asB, back, retS, fit_of, sInt, sBl, fIx, fLen, fAbs, fInt, fList, Mi.isNon, fIsN, fNotN, fCmp, fLt, fLe, fGt, fGe, fAdd, fSub, fNeg, O.frz, Mi.pick, List.getElem?_cons_zero, List.getElem?_cons_succ, List.getElem?_nil, List.set_cons_zero, List.set_cons_succ, List.map_cons, List.map_nil, List.length_cons, List.length_nil, List.replicate_succ, List.replicate_zero, List.cons_append, List.nil_append, Option.map_some, Option.map_none, if_true, if_false, Bool.false_eq_true, Bool.not_true, Bool.not_false, decide_true, decide_false, reduceIte, ne_eq, not_true_eq_false, not_false_eq_true, List.getD_cons_zero, List.getD_cons_succ, Nat.reduceAdd, Nat.reduceSub, Nat.reduceLeDiff, Nat.reduceEqDiff, atI_0, atI_1, atI_2, lam_ap, append_ap, make_ap, setF_ap, own_ap, meth_ap, methD_ap, norm_val, norm_own, norm_ali, onMethD_ap, onMeth_val, onMeth_ali, lz_ap, raise_ap, try_ap, thunk_raw, thunk_exc, byes_ap, Mi.insAt, lendTo, hand, eChain, Mi.isL, onL, okFl]
    rfl
theorem rows_ap {P : List Pt} {s t : Mi.S} (hs : Self P s t) (r : List Mi.S) : eUn (fldD "rows" is_rows es_rows) (eVar 0) (s :: r) = .ok (.val (.tup [xsD P, ysD P]), s :: r) := by
  rcases hs with ⟨rfl, rfl⟩ | ⟨rfl, rfl⟩
  · simp only [fld_rw, bnd_ap, of_ap, seq_ap, asg_ap, ret_ap, retN_ap, sif_ap, expr_ap, par_ap, par3_ap, asgT_ap, nil_ap, brk_ap, cnt_ap, give_val, give_own, give_ali, take_val, take_own, take_ali, ta_nil, ta_cons, pk_val, pk_own, pk_ali, pa_nil', pa_cons', var_ap, lit_ap, op_ap, un_ap, cb_ap, lc_ap, ln_ap, tup_ap, lst_ap, cv_ap, ck_ap, cl_ap, and_ap, or_ap, not_ap, eif_ap, bval_ap, bnot_ap, band_ap, bor_ap, gnam_ap, gtup_ap, gend_ap, gcons_ap, rng_ap, for_ap, loop_nil, setIx_ap, run_ap, M.ret, unpk, asB, back, retS, fit_of, sInt, sBl, fIx, fLen, fAbs, fInt, fList, Mi.isNon, fIsN, fNotN, fCmp, fLt, fLe, fGt, fGe, fAdd, fSub, fNeg, O.frz, Mi.pick, List.getElem?_cons_zero, List.getElem?_cons_succ, List.getElem?_nil, List.set_cons_zero, List.set_cons_succ, List.map_cons, List.map_nil, List.length_cons, List.length_nil, List.replicate_succ, List.replicate_zero, List.cons_append, List.nil_append, Option.map_some, Option.map_none, if_true, if_false, Bool.false_eq_true, Bool.not_true, Bool.not_false, decide_true, decide_false, reduceIte, ne_eq, not_true_eq_false, not_false_eq_true, List.getD_cons_zero, List.getD_cons_succ, Nat.reduceAdd, Nat.reduceSub, Nat.reduceLeDiff, Nat.reduceEqDiff, atI_0, atI_1, atI_2, lam_ap, append_ap, make_ap, setF_ap, own_ap, meth_ap, methD_ap, norm_val, norm_own, norm_ali, onMethD_ap, onMeth_val, onMeth_ali, lz_ap, raise_ap, try_ap, thunk_raw, thunk_exc, byes_ap, Mi.insAt, lendTo, hand, eChain, Mi.isL, onL, okFl]
  · simp only [pO, fld_rw, bnd_ap, of_ap, seq_ap, asg_ap, ret_ap, retN_ap, sif_ap, expr_ap, par_ap, par3_ap, asgT_ap, nil_ap, brk_ap, cnt_ap, give_val, give_own, give_ali, take_val, take_own, take_ali, ta_nil, ta_cons, pk_val, pk_own, pk_ali, pa_nil', pa_cons', var_ap, lit_ap, op_ap, un_ap, cb_ap, lc_ap, ln_ap, tup_ap, lst_ap, cv_ap, ck_ap, cl_ap, and_ap, or_ap, not_ap, eif_ap, bval_ap, bnot_ap, band_ap, bor_ap, gnam_ap, gtup_ap, gend_ap, gcons_ap, rng_ap, for_ap, loop_nil, setIx_ap, run_ap, M.ret, unpk, asB, back, retS, fit_of, sInt, sBl, fIx, fLen, fAbs, fInt, fList, Mi.isNon, fIsN, fNotN, fCmp, fLt, fLe, fGt, fGe, fAdd, fSub, fNeg, O.frz, Mi.pick, List.getElem?_cons_zero, List.getElem?_cons_succ, List.getElem?_nil, List.set_cons_zero, List.set_cons_succ, List.map_cons, List.map_nil, List.length_cons, List.length_nil, List.replicate_succ, List.replicate_zero, List.cons_append, List.nil_append, Option.map_some, Option.map_none, if_true, if_false, Bool.false_eq_true, Bool.not_true, Bool.not_false, decide_true, decide_false, reduceIte, ne_eq, not_true_eq_false, not_false_eq_true, List.getD_cons_zero, List.getD_cons_succ, Nat.reduceAdd, Nat.reduceSub, Nat.reduceLeDiff, Nat.reduceEqDiff, atI_0, atI_1, atI_2, lam_ap, append_ap, make_ap, setF_ap, own_ap, meth_ap, methD_ap, norm_val, norm_own, norm_ali, onMethD_ap, onMeth_val, onMeth_ali, lz_ap, raise_ap, try_ap, thunk_raw, thunk_exc, byes_ap, Mi.insAt, lendTo, hand, eChain, Mi.isL, onL, okFl]
    rfl
theorem Self.back {P : List Pt} {s t : Mi.S} (hs : Self P s t) {ss τ : List Mi.S} : back (s :: ss) (s :: τ) = (back ss τ).map (t :: ·) := by
  rcases hs with ⟨rfl, rfl⟩ | ⟨rfl, rfl⟩ <;> rfl
def shiftP (x y : Int) (P : List Pt) : List Pt := P.map fun p => (p.1 + x, p.2 + y)
def turnP (x y : Int) (P : List Pt) : List Pt := P.map fun p => (x * p.1 - y * p.2, y * p.1 + x * p.2)
def timesP (n : Int) (P : List Pt) : List Pt := P.map fun p => (n * p.1, n * p.2)
def mirP (P : List Pt) : List Pt := P.map fun p => (-p.1, p.2)
theorem Ok.map {P : List Pt} (h : Ok P) (f : Pt → Pt) : Ok (P.map f) := ⟨by rw [List.length_map]; exact h.1, by rw [List.length_map]; exact h.2⟩
theorem map_pT (P : List Pt) (f : Pt → Pt) : P.map (fun p => pT (f p)) = (P.map f).map pT := by rw [List.map_map]; rfl
def SmP (P : List Pt) : Prop := ∀ p ∈ P, Sm p.1 ∧ Sm p.2
theorem shifted_ok {P : List Pt} {s t : Mi.S} (hs : Self P s t) (h : Ok P) (x y : Int) : f_Picture__shifted [s, .val (.int x), .val (.int y)] = res (shiftP x y P) [t, .non, .non] := by
  have c := ecomp_map (own := [3, 4]) (mi := iSeq (eUn (fldD "places" is_places es_places) (eVar 0))) (g := gTupM 2 (gsCons (gNam 3) (gsCons (gNam 4) gsEnd))) (me := eTup (lCons (eOp fAdd (eVar 3) (eVar 1)) (lCons (eOp fAdd (eVar 4) (eVar 2)) lNil))) P pT (fun p => pT (p.1 + x, p.2 + y)) (τ := [s, .val (.int x), .val (.int y), .non, .non]) (τ1 := [s, .val (.int x), .val (.int y), .non, .non]) (τ0 := [s, .val (.int x), .val (.int y), .non, .non])
    (iseq_val (.tup (P.map pT)) (places_ap hs _) rfl) rfl rfl (fun p hp => ⟨[s, .val (.int x), .val (.int y), .val (.int p.1), .val (.int p.2)], [s, .val (.int x), .val (.int y), .val (.int p.1), .val (.int p.2)], by simp only [pT, bnd_ap, of_ap, seq_ap, asg_ap, ret_ap, retN_ap, sif_ap, expr_ap, par_ap, par3_ap, asgT_ap, nil_ap, brk_ap, cnt_ap, give_val, give_own, give_ali, take_val, take_own, take_ali, ta_nil, ta_cons, pk_val, pk_own, pk_ali, pa_nil', pa_cons', var_ap, lit_ap, op_ap, un_ap, cb_ap, lc_ap, ln_ap, tup_ap, lst_ap, cv_ap, ck_ap, cl_ap, and_ap, or_ap, not_ap, eif_ap, bval_ap, bnot_ap, band_ap, bor_ap, gnam_ap, gtup_ap, gend_ap, gcons_ap, rng_ap, for_ap, loop_nil, setIx_ap, run_ap, M.ret, unpk, asB, back, retS, fit_of, sInt, sBl, fIx, fLen, fAbs, fInt, fList, Mi.isNon, fIsN, fNotN, fCmp, fLt, fLe, fGt, fGe, fAdd, fSub, fNeg, O.frz, Mi.pick, List.getElem?_cons_zero, List.getElem?_cons_succ, List.getElem?_nil, List.set_cons_zero, List.set_cons_succ, List.map_cons, List.map_nil, List.length_cons, List.length_nil, List.replicate_succ, List.replicate_zero, List.cons_append, List.nil_append, Option.map_some, Option.map_none, if_true, if_false, Bool.false_eq_true, Bool.not_true, Bool.not_false, decide_true, decide_false, reduceIte, ne_eq, not_true_eq_false, not_false_eq_true, List.getD_cons_zero, List.getD_cons_succ, Nat.reduceAdd, Nat.reduceSub, Nat.reduceLeDiff, Nat.reduceEqDiff, atI_0, atI_1, atI_2, lam_ap, append_ap, make_ap, setF_ap, own_ap, meth_ap, methD_ap, norm_val, norm_own, norm_ali, onMethD_ap, onMeth_val, onMeth_ali, lz_ap, raise_ap, try_ap, thunk_raw, thunk_exc, byes_ap, Mi.insAt, lendTo, hand, eChain, Mi.isL, onL, okFl], by
      simp only [pT, bnd_ap, of_ap, seq_ap, asg_ap, ret_ap, retN_ap, sif_ap, expr_ap, par_ap, par3_ap, asgT_ap, nil_ap, brk_ap, cnt_ap, give_val, give_own, give_ali, take_val, take_own, take_ali, ta_nil, ta_cons, pk_val, pk_own, pk_ali, pa_nil', pa_cons', var_ap, lit_ap, op_ap, un_ap, cb_ap, lc_ap, ln_ap, tup_ap, lst_ap, cv_ap, ck_ap, cl_ap, and_ap, or_ap, not_ap, eif_ap, bval_ap, bnot_ap, band_ap, bor_ap, gnam_ap, gtup_ap, gend_ap, gcons_ap, rng_ap, for_ap, loop_nil, setIx_ap, run_ap, M.ret, unpk, asB, back, retS, fit_of, sInt, sBl, fIx, fLen, fAbs, fInt, fList, Mi.isNon, fIsN, fNotN, fCmp, fLt, fLe, fGt, fGe, fAdd, fSub, fNeg, O.frz, Mi.pick, List.getElem?_cons_zero, List.getElem?_cons_succ, List.getElem?_nil, List.set_cons_zero, List.set_cons_succ, List.map_cons, List.map_nil, List.length_cons, List.length_nil, List.replicate_succ, List.replicate_zero, List.cons_append, List.nil_append, Option.map_some, Option.map_none, if_true, if_false, Bool.false_eq_true, Bool.not_true, Bool.not_false, decide_true, decide_false, reduceIte, ne_eq, not_true_eq_false, not_false_eq_true, List.getD_cons_zero, List.getD_cons_succ, Nat.reduceAdd, Nat.reduceSub, Nat.reduceLeDiff, Nat.reduceEqDiff, atI_0, atI_1, atI_2, lam_ap, append_ap, make_ap, setF_ap, own_ap, meth_ap, methD_ap, norm_val, norm_own, norm_ali, onMethD_ap, onMeth_val, onMeth_ali, lz_ap, raise_ap, try_ap, thunk_raw, thunk_exc, byes_ap, Mi.insAt, lendTo, hand, eChain, Mi.isL, onL, okFl], rfl⟩) (by have := h.2; omega) (by rcases hs with ⟨rfl, rfl⟩ | ⟨rfl, rfl⟩ <;> rfl)
  have rt : restT [3, 4] [s, .val (.int x), .val (.int y), .non, .non] [s, .val (.int x), .val (.int y), .non, .non] = [s, .val (.int x), .val (.int y), .non, .non] := rfl
  have mp : (P.map fun p => pT (p.1 + x, p.2 + y)) = (shiftP x y P).map pT := map_pT P fun p => (p.1 + x, p.2 + y)
  rw [rt, mp] at c
  have e := changed_ok (shiftP x y P) (h.map _)
  have n1 := need_any x (.str "x")
  have n2 := need_any y (.str "y")
  rw [f_Picture__shifted, run_ap]
  by_cases hn : (shiftP x y P).all nr = true
  · simp only [res, hn, if_true] at e
    simp only [m_Picture__shifted, n1, n2, c, e, res, hn, bnd_ap, of_ap, seq_ap, asg_ap, ret_ap, retN_ap, sif_ap, expr_ap, par_ap, par3_ap, asgT_ap, nil_ap, brk_ap, cnt_ap, give_val, give_own, give_ali, take_val, take_own, take_ali, ta_nil, ta_cons, pk_val, pk_own, pk_ali, pa_nil', pa_cons', var_ap, lit_ap, op_ap, un_ap, cb_ap, lc_ap, ln_ap, tup_ap, lst_ap, cv_ap, ck_ap, cl_ap, and_ap, or_ap, not_ap, eif_ap, bval_ap, bnot_ap, band_ap, bor_ap, gnam_ap, gtup_ap, gend_ap, gcons_ap, rng_ap, for_ap, loop_nil, setIx_ap, run_ap, M.ret, unpk, asB, back, retS, fit_of, sInt, sBl, fIx, fLen, fAbs, fInt, fList, Mi.isNon, fIsN, fNotN, fCmp, fLt, fLe, fGt, fGe, fAdd, fSub, fNeg, O.frz, Mi.pick, List.getElem?_cons_zero, List.getElem?_cons_succ, List.getElem?_nil, List.set_cons_zero, List.set_cons_succ, List.map_cons, List.map_nil, List.length_cons, List.length_nil, List.replicate_succ, List.replicate_zero, List.cons_append, List.nil_append, Option.map_some, Option.map_none, if_true, if_false, Bool.false_eq_true, Bool.not_true, Bool.not_false, decide_true, decide_false, reduceIte, ne_eq, not_true_eq_false, not_false_eq_true, List.getD_cons_zero, List.getD_cons_succ, Nat.reduceAdd, Nat.reduceSub, Nat.reduceLeDiff, Nat.reduceEqDiff, atI_0, atI_1, atI_2, lam_ap, append_ap, make_ap, setF_ap, own_ap, meth_ap, methD_ap, norm_val, norm_own, norm_ali, onMethD_ap, onMeth_val, onMeth_ali, lz_ap, raise_ap, try_ap, thunk_raw, thunk_exc, byes_ap, Mi.insAt, lendTo, hand, eChain, Mi.isL, onL, okFl]
    simp only [hs.back]
    rfl
  · have hn' : (shiftP x y P).all nr = false := by simpa using hn
    simp only [res, hn', Bool.false_eq_true, if_false] at e
    simp only [m_Picture__shifted, n1, n2, c, e, res, hn', bnd_ap, of_ap, seq_ap, asg_ap, ret_ap, retN_ap, sif_ap, expr_ap, par_ap, par3_ap, asgT_ap, nil_ap, brk_ap, cnt_ap, give_val, give_own, give_ali, take_val, take_own, take_ali, ta_nil, ta_cons, pk_val, pk_own, pk_ali, pa_nil', pa_cons', var_ap, lit_ap, op_ap, un_ap, cb_ap, lc_ap, ln_ap, tup_ap, lst_ap, cv_ap, ck_ap, cl_ap, and_ap, or_ap, not_ap, eif_ap, bval_ap, bnot_ap, band_ap, bor_ap, gnam_ap, gtup_ap, gend_ap, gcons_ap, rng_ap, for_ap, loop_nil, setIx_ap, run_ap, M.ret, unpk, asB, back, retS, fit_of, sInt, sBl, fIx, fLen, fAbs, fInt, fList, Mi.isNon, fIsN, fNotN, fCmp, fLt, fLe, fGt, fGe, fAdd, fSub, fNeg, O.frz, Mi.pick, List.getElem?_cons_zero, List.getElem?_cons_succ, List.getElem?_nil, List.set_cons_zero, List.set_cons_succ, List.map_cons, List.map_nil, List.length_cons, List.length_nil, List.replicate_succ, List.replicate_zero, List.cons_append, List.nil_append, Option.map_some, Option.map_none, if_true, if_false, Bool.false_eq_true, Bool.not_true, Bool.not_false, decide_true, decide_false, reduceIte, ne_eq, not_true_eq_false, not_false_eq_true, List.getD_cons_zero, List.getD_cons_succ, Nat.reduceAdd, Nat.reduceSub, Nat.reduceLeDiff, Nat.reduceEqDiff, atI_0, atI_1, atI_2, lam_ap, append_ap, make_ap, setF_ap, own_ap, meth_ap, methD_ap, norm_val, norm_own, norm_ali, onMethD_ap, onMeth_val, onMeth_ali, lz_ap, raise_ap, try_ap, thunk_raw, thunk_exc, byes_ap, Mi.insAt, lendTo, hand, eChain, Mi.isL, onL, okFl]
    simp only [hs.back]
    rfl
theorem turned_ok {P : List Pt} {s t : Mi.S} (hs : Self P s t) (h : Ok P) (x y : Int) (hP : SmP P) (hx : Sm x) (hy : Sm y) : f_Picture__turned [s, .val (.int x), .val (.int y)] = res (turnP x y P) [t, .non, .non] := by
  have c := ecomp_map (own := [3, 4]) (mi := iSeq (eUn (fldD "places" is_places es_places) (eVar 0))) (g := gTupM 2 (gsCons (gNam 3) (gsCons (gNam 4) gsEnd))) (me := eTup (lCons (eOp fSub (eOp fMul (eVar 1) (eVar 3)) (eOp fMul (eVar 2) (eVar 4))) (lCons (eOp fAdd (eOp fMul (eVar 2) (eVar 3)) (eOp fMul (eVar 1) (eVar 4))) lNil))) P pT (fun p => pT (x * p.1 - y * p.2, y * p.1 + x * p.2)) (τ := [s, .val (.int x), .val (.int y), .non, .non]) (τ1 := [s, .val (.int x), .val (.int y), .non, .non]) (τ0 := [s, .val (.int x), .val (.int y), .non, .non])
    (iseq_val (.tup (P.map pT)) (places_ap hs _) rfl) rfl rfl (fun p hp => ⟨[s, .val (.int x), .val (.int y), .val (.int p.1), .val (.int p.2)], [s, .val (.int x), .val (.int y), .val (.int p.1), .val (.int p.2)], by simp only [pT, bnd_ap, of_ap, seq_ap, asg_ap, ret_ap, retN_ap, sif_ap, expr_ap, par_ap, par3_ap, asgT_ap, nil_ap, brk_ap, cnt_ap, give_val, give_own, give_ali, take_val, take_own, take_ali, ta_nil, ta_cons, pk_val, pk_own, pk_ali, pa_nil', pa_cons', var_ap, lit_ap, op_ap, un_ap, cb_ap, lc_ap, ln_ap, tup_ap, lst_ap, cv_ap, ck_ap, cl_ap, and_ap, or_ap, not_ap, eif_ap, bval_ap, bnot_ap, band_ap, bor_ap, gnam_ap, gtup_ap, gend_ap, gcons_ap, rng_ap, for_ap, loop_nil, setIx_ap, run_ap, M.ret, unpk, asB, back, retS, fit_of, sInt, sBl, fIx, fLen, fAbs, fInt, fList, Mi.isNon, fIsN, fNotN, fCmp, fLt, fLe, fGt, fGe, fAdd, fSub, fNeg, O.frz, Mi.pick, List.getElem?_cons_zero, List.getElem?_cons_succ, List.getElem?_nil, List.set_cons_zero, List.set_cons_succ, List.map_cons, List.map_nil, List.length_cons, List.length_nil, List.replicate_succ, List.replicate_zero, List.cons_append, List.nil_append, Option.map_some, Option.map_none, if_true, if_false, Bool.false_eq_true, Bool.not_true, Bool.not_false, decide_true, decide_false, reduceIte, ne_eq, not_true_eq_false, not_false_eq_true, List.getD_cons_zero, List.getD_cons_succ, Nat.reduceAdd, Nat.reduceSub, Nat.reduceLeDiff, Nat.reduceEqDiff, atI_0, atI_1, atI_2, lam_ap, append_ap, make_ap, setF_ap, own_ap, meth_ap, methD_ap, norm_val, norm_own, norm_ali, onMethD_ap, onMeth_val, onMeth_ali, lz_ap, raise_ap, try_ap, thunk_raw, thunk_exc, byes_ap, Mi.insAt, lendTo, hand, eChain, Mi.isL, onL, okFl], by
      obtain ⟨a, b⟩ := hP p hp
      have m1 := mul_ok hx a
      have m2 := mul_ok hy b
      have m3 := mul_ok hy a
      have m4 := mul_ok hx b
      simp only [pT, bnd_ap, of_ap, seq_ap, asg_ap, ret_ap, retN_ap, sif_ap, expr_ap, par_ap, par3_ap, asgT_ap, nil_ap, brk_ap, cnt_ap, give_val, give_own, give_ali, take_val, take_own, take_ali, ta_nil, ta_cons, pk_val, pk_own, pk_ali, pa_nil', pa_cons', var_ap, lit_ap, op_ap, un_ap, cb_ap, lc_ap, ln_ap, tup_ap, lst_ap, cv_ap, ck_ap, cl_ap, and_ap, or_ap, not_ap, eif_ap, bval_ap, bnot_ap, band_ap, bor_ap, gnam_ap, gtup_ap, gend_ap, gcons_ap, rng_ap, for_ap, loop_nil, setIx_ap, run_ap, M.ret, unpk, asB, back, retS, fit_of, sInt, sBl, fIx, fLen, fAbs, fInt, fList, Mi.isNon, fIsN, fNotN, fCmp, fLt, fLe, fGt, fGe, fAdd, fSub, fNeg, O.frz, Mi.pick, List.getElem?_cons_zero, List.getElem?_cons_succ, List.getElem?_nil, List.set_cons_zero, List.set_cons_succ, List.map_cons, List.map_nil, List.length_cons, List.length_nil, List.replicate_succ, List.replicate_zero, List.cons_append, List.nil_append, Option.map_some, Option.map_none, if_true, if_false, Bool.false_eq_true, Bool.not_true, Bool.not_false, decide_true, decide_false, reduceIte, ne_eq, not_true_eq_false, not_false_eq_true, List.getD_cons_zero, List.getD_cons_succ, Nat.reduceAdd, Nat.reduceSub, Nat.reduceLeDiff, Nat.reduceEqDiff, atI_0, atI_1, atI_2, lam_ap, append_ap, make_ap, setF_ap, own_ap, meth_ap, methD_ap, norm_val, norm_own, norm_ali, onMethD_ap, onMeth_val, onMeth_ali, lz_ap, raise_ap, try_ap, thunk_raw, thunk_exc, byes_ap, Mi.insAt, lendTo, hand, eChain, Mi.isL, onL, okFl, m1, m2, m3, m4], rfl⟩) (by have := h.2; omega) (by rcases hs with ⟨rfl, rfl⟩ | ⟨rfl, rfl⟩ <;> rfl)
  have rt : restT [3, 4] [s, .val (.int x), .val (.int y), .non, .non] [s, .val (.int x), .val (.int y), .non, .non] = [s, .val (.int x), .val (.int y), .non, .non] := rfl
  have mp : (P.map fun p => pT (x * p.1 - y * p.2, y * p.1 + x * p.2)) = (turnP x y P).map pT := map_pT P fun p => (x * p.1 - y * p.2, y * p.1 + x * p.2)
  rw [rt, mp] at c
  have e := changed_ok (turnP x y P) (h.map _)
  have n1 := need_any x (.str "x")
  have n2 := need_any y (.str "y")
  rw [f_Picture__turned, run_ap]
  by_cases hn : (turnP x y P).all nr = true
  · simp only [res, hn, if_true] at e
    simp only [m_Picture__turned, n1, n2, c, e, res, hn, bnd_ap, of_ap, seq_ap, asg_ap, ret_ap, retN_ap, sif_ap, expr_ap, par_ap, par3_ap, asgT_ap, nil_ap, brk_ap, cnt_ap, give_val, give_own, give_ali, take_val, take_own, take_ali, ta_nil, ta_cons, pk_val, pk_own, pk_ali, pa_nil', pa_cons', var_ap, lit_ap, op_ap, un_ap, cb_ap, lc_ap, ln_ap, tup_ap, lst_ap, cv_ap, ck_ap, cl_ap, and_ap, or_ap, not_ap, eif_ap, bval_ap, bnot_ap, band_ap, bor_ap, gnam_ap, gtup_ap, gend_ap, gcons_ap, rng_ap, for_ap, loop_nil, setIx_ap, run_ap, M.ret, unpk, asB, back, retS, fit_of, sInt, sBl, fIx, fLen, fAbs, fInt, fList, Mi.isNon, fIsN, fNotN, fCmp, fLt, fLe, fGt, fGe, fAdd, fSub, fNeg, O.frz, Mi.pick, List.getElem?_cons_zero, List.getElem?_cons_succ, List.getElem?_nil, List.set_cons_zero, List.set_cons_succ, List.map_cons, List.map_nil, List.length_cons, List.length_nil, List.replicate_succ, List.replicate_zero, List.cons_append, List.nil_append, Option.map_some, Option.map_none, if_true, if_false, Bool.false_eq_true, Bool.not_true, Bool.not_false, decide_true, decide_false, reduceIte, ne_eq, not_true_eq_false, not_false_eq_true, List.getD_cons_zero, List.getD_cons_succ, Nat.reduceAdd, Nat.reduceSub, Nat.reduceLeDiff, Nat.reduceEqDiff, atI_0, atI_1, atI_2, lam_ap, append_ap, make_ap, setF_ap, own_ap, meth_ap, methD_ap, norm_val, norm_own, norm_ali, onMethD_ap, onMeth_val, onMeth_ali, lz_ap, raise_ap, try_ap, thunk_raw, thunk_exc, byes_ap, Mi.insAt, lendTo, hand, eChain, Mi.isL, onL, okFl]
    simp only [hs.back]
    rfl
  · have hn' : (turnP x y P).all nr = false := by simpa using hn
    simp only [res, hn', Bool.false_eq_true, if_false] at e
    simp only [m_Picture__turned, n1, n2, c, e, res, hn', bnd_ap, of_ap, seq_ap, asg_ap, ret_ap, retN_ap, sif_ap, expr_ap, par_ap, par3_ap, asgT_ap, nil_ap, brk_ap, cnt_ap, give_val, give_own, give_ali, take_val, take_own, take_ali, ta_nil, ta_cons, pk_val, pk_own, pk_ali, pa_nil', pa_cons', var_ap, lit_ap, op_ap, un_ap, cb_ap, lc_ap, ln_ap, tup_ap, lst_ap, cv_ap, ck_ap, cl_ap, and_ap, or_ap, not_ap, eif_ap, bval_ap, bnot_ap, band_ap, bor_ap, gnam_ap, gtup_ap, gend_ap, gcons_ap, rng_ap, for_ap, loop_nil, setIx_ap, run_ap, M.ret, unpk, asB, back, retS, fit_of, sInt, sBl, fIx, fLen, fAbs, fInt, fList, Mi.isNon, fIsN, fNotN, fCmp, fLt, fLe, fGt, fGe, fAdd, fSub, fNeg, O.frz, Mi.pick, List.getElem?_cons_zero, List.getElem?_cons_succ, List.getElem?_nil, List.set_cons_zero, List.set_cons_succ, List.map_cons, List.map_nil, List.length_cons, List.length_nil, List.replicate_succ, List.replicate_zero, List.cons_append, List.nil_append, Option.map_some, Option.map_none, if_true, if_false, Bool.false_eq_true, Bool.not_true, Bool.not_false, decide_true, decide_false, reduceIte, ne_eq, not_true_eq_false, not_false_eq_true, List.getD_cons_zero, List.getD_cons_succ, Nat.reduceAdd, Nat.reduceSub, Nat.reduceLeDiff, Nat.reduceEqDiff, atI_0, atI_1, atI_2, lam_ap, append_ap, make_ap, setF_ap, own_ap, meth_ap, methD_ap, norm_val, norm_own, norm_ali, onMethD_ap, onMeth_val, onMeth_ali, lz_ap, raise_ap, try_ap, thunk_raw, thunk_exc, byes_ap, Mi.insAt, lendTo, hand, eChain, Mi.isL, onL, okFl]
    simp only [hs.back]
    rfl
theorem times_ok {P : List Pt} {s t : Mi.S} (hs : Self P s t) (h : Ok P) (n : Int) (hP : SmP P) (hx : Sm n) : f_Picture__times [s, .val (.int n)] = res (timesP n P) [t, .non] := by
  have c := ecomp_map (own := [2, 3]) (mi := iSeq (eUn (fldD "places" is_places es_places) (eVar 0))) (g := gTupM 2 (gsCons (gNam 2) (gsCons (gNam 3) gsEnd))) (me := eTup (lCons (eOp fMul (eVar 1) (eVar 2)) (lCons (eOp fMul (eVar 1) (eVar 3)) lNil))) P pT (fun p => pT (n * p.1, n * p.2)) (τ := [s, .val (.int n), .non, .non]) (τ1 := [s, .val (.int n), .non, .non]) (τ0 := [s, .val (.int n), .non, .non])
    (iseq_val (.tup (P.map pT)) (places_ap hs _) rfl) rfl rfl (fun p hp => ⟨[s, .val (.int n), .val (.int p.1), .val (.int p.2)], [s, .val (.int n), .val (.int p.1), .val (.int p.2)], by simp only [pT, bnd_ap, of_ap, seq_ap, asg_ap, ret_ap, retN_ap, sif_ap, expr_ap, par_ap, par3_ap, asgT_ap, nil_ap, brk_ap, cnt_ap, give_val, give_own, give_ali, take_val, take_own, take_ali, ta_nil, ta_cons, pk_val, pk_own, pk_ali, pa_nil', pa_cons', var_ap, lit_ap, op_ap, un_ap, cb_ap, lc_ap, ln_ap, tup_ap, lst_ap, cv_ap, ck_ap, cl_ap, and_ap, or_ap, not_ap, eif_ap, bval_ap, bnot_ap, band_ap, bor_ap, gnam_ap, gtup_ap, gend_ap, gcons_ap, rng_ap, for_ap, loop_nil, setIx_ap, run_ap, M.ret, unpk, asB, back, retS, fit_of, sInt, sBl, fIx, fLen, fAbs, fInt, fList, Mi.isNon, fIsN, fNotN, fCmp, fLt, fLe, fGt, fGe, fAdd, fSub, fNeg, O.frz, Mi.pick, List.getElem?_cons_zero, List.getElem?_cons_succ, List.getElem?_nil, List.set_cons_zero, List.set_cons_succ, List.map_cons, List.map_nil, List.length_cons, List.length_nil, List.replicate_succ, List.replicate_zero, List.cons_append, List.nil_append, Option.map_some, Option.map_none, if_true, if_false, Bool.false_eq_true, Bool.not_true, Bool.not_false, decide_true, decide_false, reduceIte, ne_eq, not_true_eq_false, not_false_eq_true, List.getD_cons_zero, List.getD_cons_succ, Nat.reduceAdd, Nat.reduceSub, Nat.reduceLeDiff, Nat.reduceEqDiff, atI_0, atI_1, atI_2, lam_ap, append_ap, make_ap, setF_ap, own_ap, meth_ap, methD_ap, norm_val, norm_own, norm_ali, onMethD_ap, onMeth_val, onMeth_ali, lz_ap, raise_ap, try_ap, thunk_raw, thunk_exc, byes_ap, Mi.insAt, lendTo, hand, eChain, Mi.isL, onL, okFl], by
      obtain ⟨a, b⟩ := hP p hp
      have m1 := mul_ok hx a
      have m2 := mul_ok hx b
      simp only [pT, bnd_ap, of_ap, seq_ap, asg_ap, ret_ap, retN_ap, sif_ap, expr_ap, par_ap, par3_ap, asgT_ap, nil_ap, brk_ap, cnt_ap, give_val, give_own, give_ali, take_val, take_own, take_ali, ta_nil, ta_cons, pk_val, pk_own, pk_ali, pa_nil', pa_cons', var_ap, lit_ap, op_ap, un_ap, cb_ap, lc_ap, ln_ap, tup_ap, lst_ap, cv_ap, ck_ap, cl_ap, and_ap, or_ap, not_ap, eif_ap, bval_ap, bnot_ap, band_ap, bor_ap, gnam_ap, gtup_ap, gend_ap, gcons_ap, rng_ap, for_ap, loop_nil, setIx_ap, run_ap, M.ret, unpk, asB, back, retS, fit_of, sInt, sBl, fIx, fLen, fAbs, fInt, fList, Mi.isNon, fIsN, fNotN, fCmp, fLt, fLe, fGt, fGe, fAdd, fSub, fNeg, O.frz, Mi.pick, List.getElem?_cons_zero, List.getElem?_cons_succ, List.getElem?_nil, List.set_cons_zero, List.set_cons_succ, List.map_cons, List.map_nil, List.length_cons, List.length_nil, List.replicate_succ, List.replicate_zero, List.cons_append, List.nil_append, Option.map_some, Option.map_none, if_true, if_false, Bool.false_eq_true, Bool.not_true, Bool.not_false, decide_true, decide_false, reduceIte, ne_eq, not_true_eq_false, not_false_eq_true, List.getD_cons_zero, List.getD_cons_succ, Nat.reduceAdd, Nat.reduceSub, Nat.reduceLeDiff, Nat.reduceEqDiff, atI_0, atI_1, atI_2, lam_ap, append_ap, make_ap, setF_ap, own_ap, meth_ap, methD_ap, norm_val, norm_own, norm_ali, onMethD_ap, onMeth_val, onMeth_ali, lz_ap, raise_ap, try_ap, thunk_raw, thunk_exc, byes_ap, Mi.insAt, lendTo, hand, eChain, Mi.isL, onL, okFl, m1, m2], rfl⟩) (by have := h.2; omega) (by rcases hs with ⟨rfl, rfl⟩ | ⟨rfl, rfl⟩ <;> rfl)
  have rt : restT [2, 3] [s, .val (.int n), .non, .non] [s, .val (.int n), .non, .non] = [s, .val (.int n), .non, .non] := rfl
  have mp : (P.map fun p => pT (n * p.1, n * p.2)) = (timesP n P).map pT := map_pT P fun p => (n * p.1, n * p.2)
  rw [rt, mp] at c
  have e := changed_ok (timesP n P) (h.map _)
  have n1 := need_any n (.str "number")
  rw [f_Picture__times, run_ap]
  by_cases hn : (timesP n P).all nr = true
  · simp only [res, hn, if_true] at e
    simp only [m_Picture__times, n1, c, e, res, hn, bnd_ap, of_ap, seq_ap, asg_ap, ret_ap, retN_ap, sif_ap, expr_ap, par_ap, par3_ap, asgT_ap, nil_ap, brk_ap, cnt_ap, give_val, give_own, give_ali, take_val, take_own, take_ali, ta_nil, ta_cons, pk_val, pk_own, pk_ali, pa_nil', pa_cons', var_ap, lit_ap, op_ap, un_ap, cb_ap, lc_ap, ln_ap, tup_ap, lst_ap, cv_ap, ck_ap, cl_ap, and_ap, or_ap, not_ap, eif_ap, bval_ap, bnot_ap, band_ap, bor_ap, gnam_ap, gtup_ap, gend_ap, gcons_ap, rng_ap, for_ap, loop_nil, setIx_ap, run_ap, M.ret, unpk, asB, back, retS, fit_of, sInt, sBl, fIx, fLen, fAbs, fInt, fList, Mi.isNon, fIsN, fNotN, fCmp, fLt, fLe, fGt, fGe, fAdd, fSub, fNeg, O.frz, Mi.pick, List.getElem?_cons_zero, List.getElem?_cons_succ, List.getElem?_nil, List.set_cons_zero, List.set_cons_succ, List.map_cons, List.map_nil, List.length_cons, List.length_nil, List.replicate_succ, List.replicate_zero, List.cons_append, List.nil_append, Option.map_some, Option.map_none, if_true, if_false, Bool.false_eq_true, Bool.not_true, Bool.not_false, decide_true, decide_false, reduceIte, ne_eq, not_true_eq_false, not_false_eq_true, List.getD_cons_zero, List.getD_cons_succ, Nat.reduceAdd, Nat.reduceSub, Nat.reduceLeDiff, Nat.reduceEqDiff, atI_0, atI_1, atI_2, lam_ap, append_ap, make_ap, setF_ap, own_ap, meth_ap, methD_ap, norm_val, norm_own, norm_ali, onMethD_ap, onMeth_val, onMeth_ali, lz_ap, raise_ap, try_ap, thunk_raw, thunk_exc, byes_ap, Mi.insAt, lendTo, hand, eChain, Mi.isL, onL, okFl]
    simp only [hs.back]
    rfl
  · have hn' : (timesP n P).all nr = false := by simpa using hn
    simp only [res, hn', Bool.false_eq_true, if_false] at e
    simp only [m_Picture__times, n1, c, e, res, hn', bnd_ap, of_ap, seq_ap, asg_ap, ret_ap, retN_ap, sif_ap, expr_ap, par_ap, par3_ap, asgT_ap, nil_ap, brk_ap, cnt_ap, give_val, give_own, give_ali, take_val, take_own, take_ali, ta_nil, ta_cons, pk_val, pk_own, pk_ali, pa_nil', pa_cons', var_ap, lit_ap, op_ap, un_ap, cb_ap, lc_ap, ln_ap, tup_ap, lst_ap, cv_ap, ck_ap, cl_ap, and_ap, or_ap, not_ap, eif_ap, bval_ap, bnot_ap, band_ap, bor_ap, gnam_ap, gtup_ap, gend_ap, gcons_ap, rng_ap, for_ap, loop_nil, setIx_ap, run_ap, M.ret, unpk, asB, back, retS, fit_of, sInt, sBl, fIx, fLen, fAbs, fInt, fList, Mi.isNon, fIsN, fNotN, fCmp, fLt, fLe, fGt, fGe, fAdd, fSub, fNeg, O.frz, Mi.pick, List.getElem?_cons_zero, List.getElem?_cons_succ, List.getElem?_nil, List.set_cons_zero, List.set_cons_succ, List.map_cons, List.map_nil, List.length_cons, List.length_nil, List.replicate_succ, List.replicate_zero, List.cons_append, List.nil_append, Option.map_some, Option.map_none, if_true, if_false, Bool.false_eq_true, Bool.not_true, Bool.not_false, decide_true, decide_false, reduceIte, ne_eq, not_true_eq_false, not_false_eq_true, List.getD_cons_zero, List.getD_cons_succ, Nat.reduceAdd, Nat.reduceSub, Nat.reduceLeDiff, Nat.reduceEqDiff, atI_0, atI_1, atI_2, lam_ap, append_ap, make_ap, setF_ap, own_ap, meth_ap, methD_ap, norm_val, norm_own, norm_ali, onMethD_ap, onMeth_val, onMeth_ali, lz_ap, raise_ap, try_ap, thunk_raw, thunk_exc, byes_ap, Mi.insAt, lendTo, hand, eChain, Mi.isL, onL, okFl]
    simp only [hs.back]
    rfl
end K12

namespace K12
open PySem PySem.Spec PyProof.Rows L2 Mi
theorem mirrored_ok {P : List Pt} {s t : Mi.S} (hs : Self P s t) (h : Ok P) (hn : P.all nr = true) : f_Picture__mirrored [s] = .ok (.own (pO (mirP P)), [t]) := by
  have c := ecomp_map (own := [1, 2]) (mi := iSeq (eUn (fldD "places" is_places es_places) (eVar 0))) (g := gTupM 2 (gsCons (gNam 1) (gsCons (gNam 2) gsEnd))) (me := eTup (lCons (eUn fNeg (eVar 1)) (lCons (eVar 2) lNil))) P pT (fun p => pT (-p.1, p.2)) (τ := [s, .non, .non]) (τ1 := [s, .non, .non]) (τ0 := [s, .non, .non])
    (iseq_val (.tup (P.map pT)) (places_ap hs _) rfl) rfl rfl (fun p hp => ⟨[s, .val (.int p.1), .val (.int p.2)], [s, .val (.int p.1), .val (.int p.2)], by simp only [pT, bnd_ap, of_ap, seq_ap, asg_ap, ret_ap, retN_ap, sif_ap, expr_ap, par_ap, par3_ap, asgT_ap, nil_ap, brk_ap, cnt_ap, give_val, give_own, give_ali, take_val, take_own, take_ali, ta_nil, ta_cons, pk_val, pk_own, pk_ali, pa_nil', pa_cons', var_ap, lit_ap, op_ap, un_ap, cb_ap, lc_ap, ln_ap, tup_ap, lst_ap, cv_ap, ck_ap, cl_ap, and_ap, or_ap, not_ap, eif_ap, bval_ap, bnot_ap, band_ap, bor_ap, gnam_ap, gtup_ap, gend_ap, gcons_ap, rng_ap, for_ap, loop_nil, setIx_ap, run_ap, M.ret, unpk, asB, back, retS, fit_of, sInt, sBl, fIx, fLen, fAbs, fInt, fList, Mi.isNon, fIsN, fNotN, fCmp, fLt, fLe, fGt, fGe, fAdd, fSub, fNeg, O.frz, Mi.pick, List.getElem?_cons_zero, List.getElem?_cons_succ, List.getElem?_nil, List.set_cons_zero, List.set_cons_succ, List.map_cons, List.map_nil, List.length_cons, List.length_nil, List.replicate_succ, List.replicate_zero, List.cons_append, List.nil_append, Option.map_some, Option.map_none, if_true, if_false, Bool.false_eq_true, Bool.not_true, Bool.not_false, decide_true, decide_false, reduceIte, ne_eq, not_true_eq_false, not_false_eq_true, List.getD_cons_zero, List.getD_cons_succ, Nat.reduceAdd, Nat.reduceSub, Nat.reduceLeDiff, Nat.reduceEqDiff, atI_0, atI_1, atI_2, lam_ap, append_ap, make_ap, setF_ap, own_ap, meth_ap, methD_ap, norm_val, norm_own, norm_ali, onMethD_ap, onMeth_val, onMeth_ali, lz_ap, raise_ap, try_ap, thunk_raw, thunk_exc, byes_ap, Mi.insAt, lendTo, hand, eChain, Mi.isL, onL, okFl], by simp only [pT, bnd_ap, of_ap, seq_ap, asg_ap, ret_ap, retN_ap, sif_ap, expr_ap, par_ap, par3_ap, asgT_ap, nil_ap, brk_ap, cnt_ap, give_val, give_own, give_ali, take_val, take_own, take_ali, ta_nil, ta_cons, pk_val, pk_own, pk_ali, pa_nil', pa_cons', var_ap, lit_ap, op_ap, un_ap, cb_ap, lc_ap, ln_ap, tup_ap, lst_ap, cv_ap, ck_ap, cl_ap, and_ap, or_ap, not_ap, eif_ap, bval_ap, bnot_ap, band_ap, bor_ap, gnam_ap, gtup_ap, gend_ap, gcons_ap, rng_ap, for_ap, loop_nil, setIx_ap, run_ap, M.ret, unpk, asB, back, retS, fit_of, sInt, sBl, fIx, fLen, fAbs, fInt, fList, Mi.isNon, fIsN, fNotN, fCmp, fLt, fLe, fGt, fGe, fAdd, fSub, fNeg, O.frz, Mi.pick, List.getElem?_cons_zero, List.getElem?_cons_succ, List.getElem?_nil, List.set_cons_zero, List.set_cons_succ, List.map_cons, List.map_nil, List.length_cons, List.length_nil, List.replicate_succ, List.replicate_zero, List.cons_append, List.nil_append, Option.map_some, Option.map_none, if_true, if_false, Bool.false_eq_true, Bool.not_true, Bool.not_false, decide_true, decide_false, reduceIte, ne_eq, not_true_eq_false, not_false_eq_true, List.getD_cons_zero, List.getD_cons_succ, Nat.reduceAdd, Nat.reduceSub, Nat.reduceLeDiff, Nat.reduceEqDiff, atI_0, atI_1, atI_2, lam_ap, append_ap, make_ap, setF_ap, own_ap, meth_ap, methD_ap, norm_val, norm_own, norm_ali, onMethD_ap, onMeth_val, onMeth_ali, lz_ap, raise_ap, try_ap, thunk_raw, thunk_exc, byes_ap, Mi.insAt, lendTo, hand, eChain, Mi.isL, onL, okFl], rfl⟩) (by have := h.2; omega) (by rcases hs with ⟨rfl, rfl⟩ | ⟨rfl, rfl⟩ <;> rfl)
  have rt : restT [1, 2] [s, .non, .non] [s, .non, .non] = [s, .non, .non] := rfl
  have mp : (P.map fun p => pT (-p.1, p.2)) = (mirP P).map pT := map_pT P fun p => (-p.1, p.2)
  rw [rt, mp] at c
  have hm : (mirP P).all nr = true := by
    rw [List.all_eq_true] at hn ⊢
    intro q hq
    obtain ⟨p, hp, rfl⟩ := List.mem_map.mp hq
    have := nr_iff.mp (hn p hp)
    exact nr_iff.mpr ⟨by simp only; omega, by simp only; omega, this.2.2.1, this.2.2.2⟩
  have e2 : eMake "Picture" f_Picture____init__ (lCons (eComp [1, 2] (iSeq (eUn (fldD "places" is_places es_places) (eVar 0))) (gTupM 2 (gsCons (gNam 1) (gsCons (gNam 2) gsEnd))) bYes (eTup (lCons (eUn fNeg (eVar 1)) (lCons (eVar 2) lNil)))) lNil) [s, .non, .non] = .ok (.own (pO (mirP P)), [s, .non, .non]) :=
    mk_ok (mirP P) (h.map _) hm (s := .own (.lst ((mirP P).map pT))) (τ1 := [s, .non, .non]) (by simp only [c, bnd_ap, of_ap, seq_ap, asg_ap, ret_ap, retN_ap, sif_ap, expr_ap, par_ap, par3_ap, asgT_ap, nil_ap, brk_ap, cnt_ap, give_val, give_own, give_ali, take_val, take_own, take_ali, ta_nil, ta_cons, pk_val, pk_own, pk_ali, pa_nil', pa_cons', var_ap, lit_ap, op_ap, un_ap, cb_ap, lc_ap, ln_ap, tup_ap, lst_ap, cv_ap, ck_ap, cl_ap, and_ap, or_ap, not_ap, eif_ap, bval_ap, bnot_ap, band_ap, bor_ap, gnam_ap, gtup_ap, gend_ap, gcons_ap, rng_ap, for_ap, loop_nil, setIx_ap, run_ap, M.ret, unpk, asB, back, retS, fit_of, sInt, sBl, fIx, fLen, fAbs, fInt, fList, Mi.isNon, fIsN, fNotN, fCmp, fLt, fLe, fGt, fGe, fAdd, fSub, fNeg, O.frz, Mi.pick, List.getElem?_cons_zero, List.getElem?_cons_succ, List.getElem?_nil, List.set_cons_zero, List.set_cons_succ, List.map_cons, List.map_nil, List.length_cons, List.length_nil, List.replicate_succ, List.replicate_zero, List.cons_append, List.nil_append, Option.map_some, Option.map_none, if_true, if_false, Bool.false_eq_true, Bool.not_true, Bool.not_false, decide_true, decide_false, reduceIte, ne_eq, not_true_eq_false, not_false_eq_true, List.getD_cons_zero, List.getD_cons_succ, Nat.reduceAdd, Nat.reduceSub, Nat.reduceLeDiff, Nat.reduceEqDiff, atI_0, atI_1, atI_2, lam_ap, append_ap, make_ap, setF_ap, own_ap, meth_ap, methD_ap, norm_val, norm_own, norm_ali, onMethD_ap, onMeth_val, onMeth_ali, lz_ap, raise_ap, try_ap, thunk_raw, thunk_exc, byes_ap, Mi.insAt, lendTo, hand, eChain, Mi.isL, onL, okFl]) rfl
  rw [f_Picture__mirrored, run_ap]
  simp only [m_Picture__mirrored, e2, bnd_ap, of_ap, seq_ap, asg_ap, ret_ap, retN_ap, sif_ap, expr_ap, par_ap, par3_ap, asgT_ap, nil_ap, brk_ap, cnt_ap, give_val, give_own, give_ali, take_val, take_own, take_ali, ta_nil, ta_cons, pk_val, pk_own, pk_ali, pa_nil', pa_cons', var_ap, lit_ap, op_ap, un_ap, cb_ap, lc_ap, ln_ap, tup_ap, lst_ap, cv_ap, ck_ap, cl_ap, and_ap, or_ap, not_ap, eif_ap, bval_ap, bnot_ap, band_ap, bor_ap, gnam_ap, gtup_ap, gend_ap, gcons_ap, rng_ap, for_ap, loop_nil, setIx_ap, run_ap, M.ret, unpk, asB, back, retS, fit_of, sInt, sBl, fIx, fLen, fAbs, fInt, fList, Mi.isNon, fIsN, fNotN, fCmp, fLt, fLe, fGt, fGe, fAdd, fSub, fNeg, O.frz, Mi.pick, List.getElem?_cons_zero, List.getElem?_cons_succ, List.getElem?_nil, List.set_cons_zero, List.set_cons_succ, List.map_cons, List.map_nil, List.length_cons, List.length_nil, List.replicate_succ, List.replicate_zero, List.cons_append, List.nil_append, Option.map_some, Option.map_none, if_true, if_false, Bool.false_eq_true, Bool.not_true, Bool.not_false, decide_true, decide_false, reduceIte, ne_eq, not_true_eq_false, not_false_eq_true, List.getD_cons_zero, List.getD_cons_succ, Nat.reduceAdd, Nat.reduceSub, Nat.reduceLeDiff, Nat.reduceEqDiff, atI_0, atI_1, atI_2, lam_ap, append_ap, make_ap, setF_ap, own_ap, meth_ap, methD_ap, norm_val, norm_own, norm_ali, onMethD_ap, onMeth_val, onMeth_ali, lz_ap, raise_ap, try_ap, thunk_raw, thunk_exc, byes_ap, Mi.insAt, lendTo, hand, eChain, Mi.isL, onL, okFl]
  simp only [hs.back]
  rfl
def stepsP (P : List Pt) : List Pt := P.tail.map fun p => (p.1 - (P.headD (0, 0)).1, p.2 - (P.headD (0, 0)).2)
theorem steps_len {P : List Pt} (h : Ok P) : (stepsP P).length ≤ 7 := by
  have := h.2
  simp only [stepsP, List.length_map, List.length_tail]
  omega
theorem steps_ok {P : List Pt} {s t : Mi.S} (hs : Self P s t) (h : Ok P) : f_Picture__steps [s] = .ok (.own (.lst ((stepsP P).map pT)), [t]) := by
  have r := fun τ => rows_ap hs τ
  have z : zipTT [xsD P, ysD P] = some (.own (.lst ((stepsP P).map pT))) := by
    have hl := h.2
    simp only [xsD, ysD, zipTT, List.length_map, List.length_tail, true_and]
    rw [if_pos (by omega)]
    refine congrArg some (congrArg Mi.S.own (congrArg O.lst ?_))
    simp only [stepsP]
    rw [List.zipWith_map_left, List.zipWith_map_right, List.map_map]
    induction P.tail with
    | nil => rfl
    | cons q l ih => rw [List.zipWith_cons_cons, List.map_cons, ih]; rfl
  have e0 : fIx (.tup [xsD P, ysD P]) (.int 0) = some (.val (xsD P)) := by simp only [fIx, atI_0, Option.map_some]
  have e1 : fIx (.tup [xsD P, ysD P]) (.int 1) = some (.val (ysD P)) := by simp only [fIx, atI_1, Option.map_some]
  rw [f_Picture__steps, run_ap]
  simp only [m_Picture__steps, r, e0, e1, z, bnd_ap, of_ap, seq_ap, asg_ap, ret_ap, retN_ap, sif_ap, expr_ap, par_ap, par3_ap, asgT_ap, nil_ap, brk_ap, cnt_ap, give_val, give_own, give_ali, take_val, take_own, take_ali, ta_nil, ta_cons, pk_val, pk_own, pk_ali, pa_nil', pa_cons', var_ap, lit_ap, op_ap, un_ap, cb_ap, lc_ap, ln_ap, tup_ap, lst_ap, cv_ap, ck_ap, cl_ap, and_ap, or_ap, not_ap, eif_ap, bval_ap, bnot_ap, band_ap, bor_ap, gnam_ap, gtup_ap, gend_ap, gcons_ap, rng_ap, for_ap, loop_nil, setIx_ap, run_ap, M.ret, unpk, asB, back, retS, fit_of, sInt, sBl, fIx, fLen, fAbs, fInt, fList, Mi.isNon, fIsN, fNotN, fCmp, fLt, fLe, fGt, fGe, fAdd, fSub, fNeg, O.frz, Mi.pick, List.getElem?_cons_zero, List.getElem?_cons_succ, List.getElem?_nil, List.set_cons_zero, List.set_cons_succ, List.map_cons, List.map_nil, List.length_cons, List.length_nil, List.replicate_succ, List.replicate_zero, List.cons_append, List.nil_append, Option.map_some, Option.map_none, if_true, if_false, Bool.false_eq_true, Bool.not_true, Bool.not_false, decide_true, decide_false, reduceIte, ne_eq, not_true_eq_false, not_false_eq_true, List.getD_cons_zero, List.getD_cons_succ, Nat.reduceAdd, Nat.reduceSub, Nat.reduceLeDiff, Nat.reduceEqDiff, atI_0, atI_1, atI_2, lam_ap, append_ap, make_ap, setF_ap, own_ap, meth_ap, methD_ap, norm_val, norm_own, norm_ali, onMethD_ap, onMeth_val, onMeth_ali, lz_ap, raise_ap, try_ap, thunk_raw, thunk_exc, byes_ap, Mi.insAt, lendTo, hand, eChain, Mi.isL, onL, okFl]
  simp only [hs.back]
  rfl
def dot (p q : Pt) : Int := p.1 * q.1 + p.2 * q.2
def prodT (P : List Pt) : D := .tup ((stepsP P).map fun p => .tup ((stepsP P).map fun q => .int (dot p q)))
theorem ins_pic (P : List Pt) (k : Str) (h : k ≠ "places" ∧ k ≠ "pins" ∧ k ≠ "rows") : (pf P).lookup k = none := by
  have e1 : (k == ("places" : Str)) = false := by simpa using h.1
  have e2 : (k == ("pins" : Str)) = false := by simpa using h.2.1
  have e3 : (k == ("rows" : Str)) = false := by simpa using h.2.2
  simp only [pf, List.lookup, e1, e2, e3]
theorem meth_steps {P : List Pt} (h : Ok P) (r : List Mi.S) : eMeth "steps" mt_steps_0 (eVar 0) lNil (.val (pic P) :: r) = .ok (.own (.lst ((stepsP P).map pT)), .val (pic P) :: r) := by
  have e := steps_ok (P := P) (s := .val (pic P)) (t := .non) (.inl ⟨rfl, rfl⟩) h
  have l := ins_pic P "steps" (by decide)
  have m : mt_steps_0 "Picture" = some f_Picture__steps := rfl
  simp only [pic] at e ⊢
  simp only [l, m, e, bnd_ap, of_ap, seq_ap, asg_ap, ret_ap, retN_ap, sif_ap, expr_ap, par_ap, par3_ap, asgT_ap, nil_ap, brk_ap, cnt_ap, give_val, give_own, give_ali, take_val, take_own, take_ali, ta_nil, ta_cons, pk_val, pk_own, pk_ali, pa_nil', pa_cons', var_ap, lit_ap, op_ap, un_ap, cb_ap, lc_ap, ln_ap, tup_ap, lst_ap, cv_ap, ck_ap, cl_ap, and_ap, or_ap, not_ap, eif_ap, bval_ap, bnot_ap, band_ap, bor_ap, gnam_ap, gtup_ap, gend_ap, gcons_ap, rng_ap, for_ap, loop_nil, setIx_ap, run_ap, M.ret, unpk, asB, back, retS, fit_of, sInt, sBl, fIx, fLen, fAbs, fInt, fList, Mi.isNon, fIsN, fNotN, fCmp, fLt, fLe, fGt, fGe, fAdd, fSub, fNeg, O.frz, Mi.pick, List.getElem?_cons_zero, List.getElem?_cons_succ, List.getElem?_nil, List.set_cons_zero, List.set_cons_succ, List.map_cons, List.map_nil, List.length_cons, List.length_nil, List.replicate_succ, List.replicate_zero, List.cons_append, List.nil_append, Option.map_some, Option.map_none, if_true, if_false, Bool.false_eq_true, Bool.not_true, Bool.not_false, decide_true, decide_false, reduceIte, ne_eq, not_true_eq_false, not_false_eq_true, List.getD_cons_zero, List.getD_cons_succ, Nat.reduceAdd, Nat.reduceSub, Nat.reduceLeDiff, Nat.reduceEqDiff, atI_0, atI_1, atI_2, lam_ap, append_ap, make_ap, setF_ap, own_ap, meth_ap, methD_ap, norm_val, norm_own, norm_ali, onMethD_ap, onMeth_val, onMeth_ali, lz_ap, raise_ap, try_ap, thunk_raw, thunk_exc, byes_ap, Mi.insAt, lendTo, hand, eChain, Mi.isL, onL, okFl]
theorem products_ok {P : List Pt} (h : Ok P) (hm : ∀ p ∈ stepsP P, Sm p.1 ∧ Sm p.2) : f_Picture__products [.val (pic P)] = .ok (.val (prodT P), [.non]) := by
  have ms := fun r => meth_steps h r
  have hl := steps_len h
  have ci := fun (p : Pt) (hp : p ∈ stepsP P) => ecomp_map (own := [3, 4]) (mi := iSeq (eMeth "steps" mt_steps_0 (eVar 0) lNil)) (g := gTupM 2 (gsCons (gNam 3) (gsCons (gNam 4) gsEnd))) (me := eOp fAdd (eOp fMul (eVar 1) (eVar 3)) (eOp fMul (eVar 2) (eVar 4))) (stepsP P) pT (fun q => .int (dot p q)) (τ := [.val (pic P), .val (.int p.1), .val (.int p.2), .non, .non]) (τ1 := [.val (pic P), .val (.int p.1), .val (.int p.2), .non, .non]) (τ0 := [.val (pic P), .val (.int p.1), .val (.int p.2), .non, .non])
    (iseq_own (.lst ((stepsP P).map pT)) (ms _) rfl) rfl rfl (fun q hq => ⟨[.val (pic P), .val (.int p.1), .val (.int p.2), .val (.int q.1), .val (.int q.2)], [.val (pic P), .val (.int p.1), .val (.int p.2), .val (.int q.1), .val (.int q.2)], by simp only [pT, bnd_ap, of_ap, seq_ap, asg_ap, ret_ap, retN_ap, sif_ap, expr_ap, par_ap, par3_ap, asgT_ap, nil_ap, brk_ap, cnt_ap, give_val, give_own, give_ali, take_val, take_own, take_ali, ta_nil, ta_cons, pk_val, pk_own, pk_ali, pa_nil', pa_cons', var_ap, lit_ap, op_ap, un_ap, cb_ap, lc_ap, ln_ap, tup_ap, lst_ap, cv_ap, ck_ap, cl_ap, and_ap, or_ap, not_ap, eif_ap, bval_ap, bnot_ap, band_ap, bor_ap, gnam_ap, gtup_ap, gend_ap, gcons_ap, rng_ap, for_ap, loop_nil, setIx_ap, run_ap, M.ret, unpk, asB, back, retS, fit_of, sInt, sBl, fIx, fLen, fAbs, fInt, fList, Mi.isNon, fIsN, fNotN, fCmp, fLt, fLe, fGt, fGe, fAdd, fSub, fNeg, O.frz, Mi.pick, List.getElem?_cons_zero, List.getElem?_cons_succ, List.getElem?_nil, List.set_cons_zero, List.set_cons_succ, List.map_cons, List.map_nil, List.length_cons, List.length_nil, List.replicate_succ, List.replicate_zero, List.cons_append, List.nil_append, Option.map_some, Option.map_none, if_true, if_false, Bool.false_eq_true, Bool.not_true, Bool.not_false, decide_true, decide_false, reduceIte, ne_eq, not_true_eq_false, not_false_eq_true, List.getD_cons_zero, List.getD_cons_succ, Nat.reduceAdd, Nat.reduceSub, Nat.reduceLeDiff, Nat.reduceEqDiff, atI_0, atI_1, atI_2, lam_ap, append_ap, make_ap, setF_ap, own_ap, meth_ap, methD_ap, norm_val, norm_own, norm_ali, onMethD_ap, onMeth_val, onMeth_ali, lz_ap, raise_ap, try_ap, thunk_raw, thunk_exc, byes_ap, Mi.insAt, lendTo, hand, eChain, Mi.isL, onL, okFl], by
      have m1 := mul_ok (hm p hp).1 (hm q hq).1
      have m2 := mul_ok (hm p hp).2 (hm q hq).2
      simp only [m1, m2, dot, bnd_ap, of_ap, seq_ap, asg_ap, ret_ap, retN_ap, sif_ap, expr_ap, par_ap, par3_ap, asgT_ap, nil_ap, brk_ap, cnt_ap, give_val, give_own, give_ali, take_val, take_own, take_ali, ta_nil, ta_cons, pk_val, pk_own, pk_ali, pa_nil', pa_cons', var_ap, lit_ap, op_ap, un_ap, cb_ap, lc_ap, ln_ap, tup_ap, lst_ap, cv_ap, ck_ap, cl_ap, and_ap, or_ap, not_ap, eif_ap, bval_ap, bnot_ap, band_ap, bor_ap, gnam_ap, gtup_ap, gend_ap, gcons_ap, rng_ap, for_ap, loop_nil, setIx_ap, run_ap, M.ret, unpk, asB, back, retS, fit_of, sInt, sBl, fIx, fLen, fAbs, fInt, fList, Mi.isNon, fIsN, fNotN, fCmp, fLt, fLe, fGt, fGe, fAdd, fSub, fNeg, O.frz, Mi.pick, List.getElem?_cons_zero, List.getElem?_cons_succ, List.getElem?_nil, List.set_cons_zero, List.set_cons_succ, List.map_cons, List.map_nil, List.length_cons, List.length_nil, List.replicate_succ, List.replicate_zero, List.cons_append, List.nil_append, Option.map_some, Option.map_none, if_true, if_false, Bool.false_eq_true, Bool.not_true, Bool.not_false, decide_true, decide_false, reduceIte, ne_eq, not_true_eq_false, not_false_eq_true, List.getD_cons_zero, List.getD_cons_succ, Nat.reduceAdd, Nat.reduceSub, Nat.reduceLeDiff, Nat.reduceEqDiff, atI_0, atI_1, atI_2, lam_ap, append_ap, make_ap, setF_ap, own_ap, meth_ap, methD_ap, norm_val, norm_own, norm_ali, onMethD_ap, onMeth_val, onMeth_ali, lz_ap, raise_ap, try_ap, thunk_raw, thunk_exc, byes_ap, Mi.insAt, lendTo, hand, eChain, Mi.isL, onL, okFl], rfl⟩) (by omega) rfl
  have rt : ∀ a b : Mi.S, restT [3, 4] [.val (pic P), a, b, .non, .non] [.val (pic P), a, b, .non, .non] = [.val (pic P), a, b, .non, .non] := fun a b => rfl
  simp only [rt] at ci
  have co := ecomp_map (own := [1, 2]) (mi := iSeq (eMeth "steps" mt_steps_0 (eVar 0) lNil)) (g := gTupM 2 (gsCons (gNam 1) (gsCons (gNam 2) gsEnd))) (me := eCB fTuple (lCons (eComp [3, 4] (iSeq (eMeth "steps" mt_steps_0 (eVar 0) lNil)) (gTupM 2 (gsCons (gNam 3) (gsCons (gNam 4) gsEnd))) bYes (eOp fAdd (eOp fMul (eVar 1) (eVar 3)) (eOp fMul (eVar 2) (eVar 4)))) lNil)) (stepsP P) pT (fun p => .tup ((stepsP P).map fun q => .int (dot p q))) (τ := [.val (pic P), .non, .non, .non, .non]) (τ1 := [.val (pic P), .non, .non, .non, .non]) (τ0 := [.val (pic P), .non, .non, .non, .non])
    (iseq_own (.lst ((stepsP P).map pT)) (ms _) rfl) rfl rfl (fun p hp => ⟨[.val (pic P), .val (.int p.1), .val (.int p.2), .non, .non], [.val (pic P), .val (.int p.1), .val (.int p.2), .non, .non], by simp only [pT, bnd_ap, of_ap, seq_ap, asg_ap, ret_ap, retN_ap, sif_ap, expr_ap, par_ap, par3_ap, asgT_ap, nil_ap, brk_ap, cnt_ap, give_val, give_own, give_ali, take_val, take_own, take_ali, ta_nil, ta_cons, pk_val, pk_own, pk_ali, pa_nil', pa_cons', var_ap, lit_ap, op_ap, un_ap, cb_ap, lc_ap, ln_ap, tup_ap, lst_ap, cv_ap, ck_ap, cl_ap, and_ap, or_ap, not_ap, eif_ap, bval_ap, bnot_ap, band_ap, bor_ap, gnam_ap, gtup_ap, gend_ap, gcons_ap, rng_ap, for_ap, loop_nil, setIx_ap, run_ap, M.ret, unpk, asB, back, retS, fit_of, sInt, sBl, fIx, fLen, fAbs, fInt, fList, Mi.isNon, fIsN, fNotN, fCmp, fLt, fLe, fGt, fGe, fAdd, fSub, fNeg, O.frz, Mi.pick, List.getElem?_cons_zero, List.getElem?_cons_succ, List.getElem?_nil, List.set_cons_zero, List.set_cons_succ, List.map_cons, List.map_nil, List.length_cons, List.length_nil, List.replicate_succ, List.replicate_zero, List.cons_append, List.nil_append, Option.map_some, Option.map_none, if_true, if_false, Bool.false_eq_true, Bool.not_true, Bool.not_false, decide_true, decide_false, reduceIte, ne_eq, not_true_eq_false, not_false_eq_true, List.getD_cons_zero, List.getD_cons_succ, Nat.reduceAdd, Nat.reduceSub, Nat.reduceLeDiff, Nat.reduceEqDiff, atI_0, atI_1, atI_2, lam_ap, append_ap, make_ap, setF_ap, own_ap, meth_ap, methD_ap, norm_val, norm_own, norm_ali, onMethD_ap, onMeth_val, onMeth_ali, lz_ap, raise_ap, try_ap, thunk_raw, thunk_exc, byes_ap, Mi.insAt, lendTo, hand, eChain, Mi.isL, onL, okFl], by
      have c := ci p hp
      simp only [c, fTuple, bnd_ap, of_ap, seq_ap, asg_ap, ret_ap, retN_ap, sif_ap, expr_ap, par_ap, par3_ap, asgT_ap, nil_ap, brk_ap, cnt_ap, give_val, give_own, give_ali, take_val, take_own, take_ali, ta_nil, ta_cons, pk_val, pk_own, pk_ali, pa_nil', pa_cons', var_ap, lit_ap, op_ap, un_ap, cb_ap, lc_ap, ln_ap, tup_ap, lst_ap, cv_ap, ck_ap, cl_ap, and_ap, or_ap, not_ap, eif_ap, bval_ap, bnot_ap, band_ap, bor_ap, gnam_ap, gtup_ap, gend_ap, gcons_ap, rng_ap, for_ap, loop_nil, setIx_ap, run_ap, M.ret, unpk, asB, back, retS, fit_of, sInt, sBl, fIx, fLen, fAbs, fInt, fList, Mi.isNon, fIsN, fNotN, fCmp, fLt, fLe, fGt, fGe, fAdd, fSub, fNeg, O.frz, Mi.pick, List.getElem?_cons_zero, List.getElem?_cons_succ, List.getElem?_nil, List.set_cons_zero, List.set_cons_succ, List.map_cons, List.map_nil, List.length_cons, List.length_nil, List.replicate_succ, List.replicate_zero, List.cons_append, List.nil_append, Option.map_some, Option.map_none, if_true, if_false, Bool.false_eq_true, Bool.not_true, Bool.not_false, decide_true, decide_false, reduceIte, ne_eq, not_true_eq_false, not_false_eq_true, List.getD_cons_zero, List.getD_cons_succ, Nat.reduceAdd, Nat.reduceSub, Nat.reduceLeDiff, Nat.reduceEqDiff, atI_0, atI_1, atI_2, lam_ap, append_ap, make_ap, setF_ap, own_ap, meth_ap, methD_ap, norm_val, norm_own, norm_ali, onMethD_ap, onMeth_val, onMeth_ali, lz_ap, raise_ap, try_ap, thunk_raw, thunk_exc, byes_ap, Mi.insAt, lendTo, hand, eChain, Mi.isL, onL, okFl], rfl⟩) (by omega) rfl
  have rt2 : restT [1, 2] [.val (pic P), .non, .non, .non, .non] [.val (pic P), .non, .non, .non, .non] = [.val (pic P), .non, .non, .non, .non] := rfl
  rw [rt2] at co
  rw [f_Picture__products, run_ap]
  simp only [m_Picture__products, co, fTuple, prodT, bnd_ap, of_ap, seq_ap, asg_ap, ret_ap, retN_ap, sif_ap, expr_ap, par_ap, par3_ap, asgT_ap, nil_ap, brk_ap, cnt_ap, give_val, give_own, give_ali, take_val, take_own, take_ali, ta_nil, ta_cons, pk_val, pk_own, pk_ali, pa_nil', pa_cons', var_ap, lit_ap, op_ap, un_ap, cb_ap, lc_ap, ln_ap, tup_ap, lst_ap, cv_ap, ck_ap, cl_ap, and_ap, or_ap, not_ap, eif_ap, bval_ap, bnot_ap, band_ap, bor_ap, gnam_ap, gtup_ap, gend_ap, gcons_ap, rng_ap, for_ap, loop_nil, setIx_ap, run_ap, M.ret, unpk, asB, back, retS, fit_of, sInt, sBl, fIx, fLen, fAbs, fInt, fList, Mi.isNon, fIsN, fNotN, fCmp, fLt, fLe, fGt, fGe, fAdd, fSub, fNeg, O.frz, Mi.pick, List.getElem?_cons_zero, List.getElem?_cons_succ, List.getElem?_nil, List.set_cons_zero, List.set_cons_succ, List.map_cons, List.map_nil, List.length_cons, List.length_nil, List.replicate_succ, List.replicate_zero, List.cons_append, List.nil_append, Option.map_some, Option.map_none, if_true, if_false, Bool.false_eq_true, Bool.not_true, Bool.not_false, decide_true, decide_false, reduceIte, ne_eq, not_true_eq_false, not_false_eq_true, List.getD_cons_zero, List.getD_cons_succ, Nat.reduceAdd, Nat.reduceSub, Nat.reduceLeDiff, Nat.reduceEqDiff, atI_0, atI_1, atI_2, lam_ap, append_ap, make_ap, setF_ap, own_ap, meth_ap, methD_ap, norm_val, norm_own, norm_ali, onMethD_ap, onMeth_val, onMeth_ali, lz_ap, raise_ap, try_ap, thunk_raw, thunk_exc, byes_ap, Mi.insAt, lendTo, hand, eChain, Mi.isL, onL, okFl]
  first | done | rfl
/-! #### equal pictures -/
theorem pl_pts (P : List Pt) : PlN 2 (.tup (P.map pT)) := .tup fun x hx => by
  obtain ⟨p, _, rfl⟩ := List.mem_map.mp hx
  refine .tup fun y hy => ?_
  simp only [List.mem_cons, List.not_mem_nil, or_false] at hy
  rcases hy with rfl | rfl <;> exact .int _
theorem pl_lst (P : List Pt) : PlN 2 (.lst (P.map pT)) := .lst fun x hx => by
  obtain ⟨p, _, rfl⟩ := List.mem_map.mp hx
  refine .tup fun y hy => ?_
  simp only [List.mem_cons, List.not_mem_nil, or_false] at hy
  rcases hy with rfl | rfl <;> exact .int _
theorem eq_pic (P : List Pt) : f_Picture____eq__ [.val (pic P), .val (pic P)] = .ok (.val (.bl true), [.non, .non]) := by
  have e1 : fIsi isT [pic P, .cls "Picture"] = some (.val (.bl true)) := rfl
  have e2 := fEq_self (pl_pts P) (by decide)
  rw [f_Picture____eq__, run_ap]
  simp only [m_Picture____eq__, e1, fld_pl, e2, bnd_ap, of_ap, seq_ap, asg_ap, ret_ap, retN_ap, sif_ap, expr_ap, par_ap, par3_ap, asgT_ap, nil_ap, brk_ap, cnt_ap, give_val, give_own, give_ali, take_val, take_own, take_ali, ta_nil, ta_cons, pk_val, pk_own, pk_ali, pa_nil', pa_cons', var_ap, lit_ap, op_ap, un_ap, cb_ap, lc_ap, ln_ap, tup_ap, lst_ap, cv_ap, ck_ap, cl_ap, and_ap, or_ap, not_ap, eif_ap, bval_ap, bnot_ap, band_ap, bor_ap, gnam_ap, gtup_ap, gend_ap, gcons_ap, rng_ap, for_ap, loop_nil, setIx_ap, run_ap, M.ret, unpk, asB, back, retS, fit_of, sInt, sBl, fIx, fLen, fAbs, fInt, fList, Mi.isNon, fIsN, fNotN, fCmp, fLt, fLe, fGt, fGe, fAdd, fSub, fNeg, O.frz, Mi.pick, List.getElem?_cons_zero, List.getElem?_cons_succ, List.getElem?_nil, List.set_cons_zero, List.set_cons_succ, List.map_cons, List.map_nil, List.length_cons, List.length_nil, List.replicate_succ, List.replicate_zero, List.cons_append, List.nil_append, Option.map_some, Option.map_none, if_true, if_false, Bool.false_eq_true, Bool.not_true, Bool.not_false, decide_true, decide_false, reduceIte, ne_eq, not_true_eq_false, not_false_eq_true, List.getD_cons_zero, List.getD_cons_succ, Nat.reduceAdd, Nat.reduceSub, Nat.reduceLeDiff, Nat.reduceEqDiff, atI_0, atI_1, atI_2, lam_ap, append_ap, make_ap, setF_ap, own_ap, meth_ap, methD_ap, norm_val, norm_own, norm_ali, onMethD_ap, onMeth_val, onMeth_ali, lz_ap, raise_ap, try_ap, thunk_raw, thunk_exc, byes_ap, Mi.insAt, lendTo, hand, eChain, Mi.isL, onL, okFl]
theorem own_eq {neg : Bool} {ma mb : M Mi.S} {τ τ1 τ2 τ3 τ4 : List Mi.S} {s1 s2 : Mi.S} (P : List Pt) (h1 : ma τ = .ok (s1, τ1)) (h2 : mb τ1 = .ok (s2, τ2)) (h3 : take s2 τ2 = .ok (pic P, τ3)) (h4 : take s1 τ3 = .ok (pic P, τ4)) : eOwn neg mt_eq (okTs tgs) ma mb τ = .ok (.val (.bl (neg ^^ true)), τ4) := by
  have e := eq_pic P
  have m : mt_eq "Picture" = some f_Picture____eq__ := rfl
  have g : tagOf (pic P) = some (.ins "Picture") := rfl
  have k : okTs tgs "Picture" (.ins "Picture") = true := rfl
  simp only [own_ap, bnd_ap, h1, h2, h3, h4]
  show (match mt_eq "Picture", tagOf (pic P) with
    | some mf, some t => if okTs tgs "Picture" t = true then (match mf ([pic P, pic P].map Mi.S.val) with
      | R.ok (.val (.bl q), _) => R.ok (Mi.S.val (.bl (neg ^^ q)), τ4)
      | R.exc cc gs _ => R.exc cc gs τ4
      | _ => R.stuck) else R.stuck
    | _, _ => R.stuck) = _
  simp only [m, g, k, if_true, List.map_cons, List.map_nil, e]
end K12

namespace K12
open PySem PySem.Spec PyProof.Rows L2 Mi
/-! #### the law's own sums -/
theorem tail_lst (P : List Pt) (h : P ≠ []) : fSl (.lst (P.map pT)) (some 1) none = some (.own (.lst (P.tail.map pT))) := by
  cases P with
  | nil => exact absurd rfl h
  | cons p P =>
    have e1 : HT.sIx ((p :: P).map pT).length 0 (some 1) = 1 := by
      have := HT.sIx_nat ((p :: P).map pT).length 0 1
      rw [show ((1 : Nat) : Int) = 1 from rfl] at this
      rw [this]
      simp only [List.length_map, List.length_cons]
      omega
    have e2 : HT.sIx ((p :: P).map pT).length ((p :: P).map pT).length none = ((p :: P).map pT).length := HT.sIx_none _ _
    simp only [fSl]
    unfold cut
    rw [e1, e2]
    simp only [List.map_cons, List.drop_succ_cons, List.drop_zero, List.length_cons, List.length_map, List.tail_cons]
    rw [List.take_of_length_le (by simp)]
def rowsL (P : List Pt) : List D := (stepsP P).map fun p => .lst ((stepsP P).map fun q => .int (dot p q))
theorem fix0 (x : Pt) : fIx (pT x) (.int 0) = some (.val (.int x.1)) := by simp only [pT, fIx, atI_0, Option.map_some]
theorem fix1 (x : Pt) : fIx (pT x) (.int 1) = some (.val (.int x.2)) := by simp only [pT, fIx, atI_1, Option.map_some]
theorem fix0l (x : Pt) (l : List D) : fIx (.lst (pT x :: l)) (.int 0) = some (.val (pT x)) := by simp only [fIx, atI_0, Option.map_some]
theorem law_products_ok {P : List Pt} (h : Ok P) (hm : ∀ p ∈ stepsP P, Sm p.1 ∧ Sm p.2) : f__law_products [.val (.lst (P.map pT))] = .ok (.own (.lst (rowsL P)), [.non]) := by
  have hl := steps_len h
  have hc := tail_lst P h.ne
  obtain ⟨p0, r, rfl⟩ := List.exists_cons_of_ne_nil h.ne
  have hr : r.length ≤ 1000 := by have := h.2; simp only [List.length_cons] at this; omega
  simp only [List.map_cons, List.tail_cons] at hc
  have se : stepsP (p0 :: r) = r.map fun p => (p.1 - p0.1, p.2 - p0.2) := rfl
  have c1 := ecomp_map (own := [2]) (mi := iSeq (eSl (eVar 0) (pSome (eLit (.int 1))) pNone)) (g := gNam 2) (me := eTup (lCons (eOp fSub (eOp fIx (eVar 2) (eLit (.int 0))) (eOp fIx (eOp fIx (eVar 0) (eLit (.int 0))) (eLit (.int 0)))) (lCons (eOp fSub (eOp fIx (eVar 2) (eLit (.int 1))) (eOp fIx (eOp fIx (eVar 0) (eLit (.int 0))) (eLit (.int 1)))) lNil))) r pT (fun p => pT (p.1 - p0.1, p.2 - p0.2)) (τ := [.val (.lst (pT p0 :: r.map pT)), .non, .non, .non, .non]) (τ1 := [.val (.lst (pT p0 :: r.map pT)), .non, .non, .non, .non]) (τ0 := [.val (.lst (pT p0 :: r.map pT)), .non, .non, .non, .non])
    (iseq_own (.lst (r.map pT)) (by simp only [eSl, pNone, pSome, asI, hc, bnd_ap, of_ap, seq_ap, asg_ap, ret_ap, retN_ap, sif_ap, expr_ap, par_ap, par3_ap, asgT_ap, nil_ap, brk_ap, cnt_ap, give_val, give_own, give_ali, take_val, take_own, take_ali, ta_nil, ta_cons, pk_val, pk_own, pk_ali, pa_nil', pa_cons', var_ap, lit_ap, op_ap, un_ap, cb_ap, lc_ap, ln_ap, tup_ap, lst_ap, cv_ap, ck_ap, cl_ap, and_ap, or_ap, not_ap, eif_ap, bval_ap, bnot_ap, band_ap, bor_ap, gnam_ap, gtup_ap, gend_ap, gcons_ap, rng_ap, for_ap, loop_nil, setIx_ap, run_ap, M.ret, unpk, asB, back, retS, fit_of, sInt, sBl, fIx, fLen, fAbs, fInt, fList, Mi.isNon, fIsN, fNotN, fCmp, fLt, fLe, fGt, fGe, fAdd, fSub, fNeg, O.frz, Mi.pick, List.getElem?_cons_zero, List.getElem?_cons_succ, List.getElem?_nil, List.set_cons_zero, List.set_cons_succ, List.map_cons, List.map_nil, List.length_cons, List.length_nil, List.replicate_succ, List.replicate_zero, List.cons_append, List.nil_append, Option.map_some, Option.map_none, if_true, if_false, Bool.false_eq_true, Bool.not_true, Bool.not_false, decide_true, decide_false, reduceIte, ne_eq, not_true_eq_false, not_false_eq_true, List.getD_cons_zero, List.getD_cons_succ, Nat.reduceAdd, Nat.reduceSub, Nat.reduceLeDiff, Nat.reduceEqDiff, atI_0, atI_1, atI_2, lam_ap, append_ap, make_ap, setF_ap, own_ap, meth_ap, methD_ap, norm_val, norm_own, norm_ali, onMethD_ap, onMeth_val, onMeth_ali, lz_ap, raise_ap, try_ap, thunk_raw, thunk_exc, byes_ap, Mi.insAt, lendTo, hand, eChain, Mi.isL, onL, okFl]) rfl) rfl rfl (fun p hp => ⟨[.val (.lst (pT p0 :: r.map pT)), .non, .val (pT p), .non, .non], [.val (.lst (pT p0 :: r.map pT)), .non, .val (pT p), .non, .non], rfl, by simp only [pT, bnd_ap, of_ap, seq_ap, asg_ap, ret_ap, retN_ap, sif_ap, expr_ap, par_ap, par3_ap, asgT_ap, nil_ap, brk_ap, cnt_ap, give_val, give_own, give_ali, take_val, take_own, take_ali, ta_nil, ta_cons, pk_val, pk_own, pk_ali, pa_nil', pa_cons', var_ap, lit_ap, op_ap, un_ap, cb_ap, lc_ap, ln_ap, tup_ap, lst_ap, cv_ap, ck_ap, cl_ap, and_ap, or_ap, not_ap, eif_ap, bval_ap, bnot_ap, band_ap, bor_ap, gnam_ap, gtup_ap, gend_ap, gcons_ap, rng_ap, for_ap, loop_nil, setIx_ap, run_ap, M.ret, unpk, asB, back, retS, fit_of, sInt, sBl, fIx, fLen, fAbs, fInt, fList, Mi.isNon, fIsN, fNotN, fCmp, fLt, fLe, fGt, fGe, fAdd, fSub, fNeg, O.frz, Mi.pick, List.getElem?_cons_zero, List.getElem?_cons_succ, List.getElem?_nil, List.set_cons_zero, List.set_cons_succ, List.map_cons, List.map_nil, List.length_cons, List.length_nil, List.replicate_succ, List.replicate_zero, List.cons_append, List.nil_append, Option.map_some, Option.map_none, if_true, if_false, Bool.false_eq_true, Bool.not_true, Bool.not_false, decide_true, decide_false, reduceIte, ne_eq, not_true_eq_false, not_false_eq_true, List.getD_cons_zero, List.getD_cons_succ, Nat.reduceAdd, Nat.reduceSub, Nat.reduceLeDiff, Nat.reduceEqDiff, atI_0, atI_1, atI_2, lam_ap, append_ap, make_ap, setF_ap, own_ap, meth_ap, methD_ap, norm_val, norm_own, norm_ali, onMethD_ap, onMeth_val, onMeth_ali, lz_ap, raise_ap, try_ap, thunk_raw, thunk_exc, byes_ap, Mi.insAt, lendTo, hand, eChain, Mi.isL, onL, okFl], rfl⟩) hr rfl
  have mp : (r.map fun p => pT (p.1 - p0.1, p.2 - p0.2)) = (stepsP (p0 :: r)).map pT := map_pT r fun p => (p.1 - p0.1, p.2 - p0.2)
  rw [mp] at c1
  clear se mp
  obtain ⟨Q, hQ⟩ : ∃ Q, Q = stepsP (p0 :: r) := ⟨_, rfl⟩
  simp only [rowsL]
  rw [← hQ] at c1 hl hm ⊢
  have ci := fun (p : Pt) (hp : p ∈ Q) => ecomp_map (own := [4]) (mi := iSeq (eVar 1)) (g := gNam 4) (me := eOp fAdd (eOp fMul (eOp fIx (eVar 3) (eLit (.int 0))) (eOp fIx (eVar 4) (eLit (.int 0)))) (eOp fMul (eOp fIx (eVar 3) (eLit (.int 1))) (eOp fIx (eVar 4) (eLit (.int 1))))) Q pT (fun q => .int (dot p q)) (τ := [.val (.lst (pT p0 :: r.map pT)), .val (.lst (Q.map pT)), .non, .val (pT p), .non]) (τ1 := [.val (.lst (pT p0 :: r.map pT)), .val (.lst (Q.map pT)), .non, .val (pT p), .non]) (τ0 := [.val (.lst (pT p0 :: r.map pT)), .val (.lst (Q.map pT)), .non, .val (pT p), .non])
    (iseq_val (.lst (Q.map pT)) (by simp only [bnd_ap, of_ap, seq_ap, asg_ap, ret_ap, retN_ap, sif_ap, expr_ap, par_ap, par3_ap, asgT_ap, nil_ap, brk_ap, cnt_ap, give_val, give_own, give_ali, take_val, take_own, take_ali, ta_nil, ta_cons, pk_val, pk_own, pk_ali, pa_nil', pa_cons', var_ap, lit_ap, op_ap, un_ap, cb_ap, lc_ap, ln_ap, tup_ap, lst_ap, cv_ap, ck_ap, cl_ap, and_ap, or_ap, not_ap, eif_ap, bval_ap, bnot_ap, band_ap, bor_ap, gnam_ap, gtup_ap, gend_ap, gcons_ap, rng_ap, for_ap, loop_nil, setIx_ap, run_ap, M.ret, unpk, asB, back, retS, fit_of, sInt, sBl, fIx, fLen, fAbs, fInt, fList, Mi.isNon, fIsN, fNotN, fCmp, fLt, fLe, fGt, fGe, fAdd, fSub, fNeg, O.frz, Mi.pick, List.getElem?_cons_zero, List.getElem?_cons_succ, List.getElem?_nil, List.set_cons_zero, List.set_cons_succ, List.map_cons, List.map_nil, List.length_cons, List.length_nil, List.replicate_succ, List.replicate_zero, List.cons_append, List.nil_append, Option.map_some, Option.map_none, if_true, if_false, Bool.false_eq_true, Bool.not_true, Bool.not_false, decide_true, decide_false, reduceIte, ne_eq, not_true_eq_false, not_false_eq_true, List.getD_cons_zero, List.getD_cons_succ, Nat.reduceAdd, Nat.reduceSub, Nat.reduceLeDiff, Nat.reduceEqDiff, atI_0, atI_1, atI_2, lam_ap, append_ap, make_ap, setF_ap, own_ap, meth_ap, methD_ap, norm_val, norm_own, norm_ali, onMethD_ap, onMeth_val, onMeth_ali, lz_ap, raise_ap, try_ap, thunk_raw, thunk_exc, byes_ap, Mi.insAt, lendTo, hand, eChain, Mi.isL, onL, okFl]) rfl) rfl rfl (fun q hq => ⟨[.val (.lst (pT p0 :: r.map pT)), .val (.lst (Q.map pT)), .non, .val (pT p), .val (pT q)], [.val (.lst (pT p0 :: r.map pT)), .val (.lst (Q.map pT)), .non, .val (pT p), .val (pT q)], rfl, by
      have m1 := mul_ok (hm p hp).1 (hm q hq).1
      have m2 := mul_ok (hm p hp).2 (hm q hq).2
      simp only [pT, m1, m2, dot, bnd_ap, of_ap, seq_ap, asg_ap, ret_ap, retN_ap, sif_ap, expr_ap, par_ap, par3_ap, asgT_ap, nil_ap, brk_ap, cnt_ap, give_val, give_own, give_ali, take_val, take_own, take_ali, ta_nil, ta_cons, pk_val, pk_own, pk_ali, pa_nil', pa_cons', var_ap, lit_ap, op_ap, un_ap, cb_ap, lc_ap, ln_ap, tup_ap, lst_ap, cv_ap, ck_ap, cl_ap, and_ap, or_ap, not_ap, eif_ap, bval_ap, bnot_ap, band_ap, bor_ap, gnam_ap, gtup_ap, gend_ap, gcons_ap, rng_ap, for_ap, loop_nil, setIx_ap, run_ap, M.ret, unpk, asB, back, retS, fit_of, sInt, sBl, fIx, fLen, fAbs, fInt, fList, Mi.isNon, fIsN, fNotN, fCmp, fLt, fLe, fGt, fGe, fAdd, fSub, fNeg, O.frz, Mi.pick, List.getElem?_cons_zero, List.getElem?_cons_succ, List.getElem?_nil, List.set_cons_zero, List.set_cons_succ, List.map_cons, List.map_nil, List.length_cons, List.length_nil, List.replicate_succ, List.replicate_zero, List.cons_append, List.nil_append, Option.map_some, Option.map_none, if_true, if_false, Bool.false_eq_true, Bool.not_true, Bool.not_false, decide_true, decide_false, reduceIte, ne_eq, not_true_eq_false, not_false_eq_true, List.getD_cons_zero, List.getD_cons_succ, Nat.reduceAdd, Nat.reduceSub, Nat.reduceLeDiff, Nat.reduceEqDiff, atI_0, atI_1, atI_2, lam_ap, append_ap, make_ap, setF_ap, own_ap, meth_ap, methD_ap, norm_val, norm_own, norm_ali, onMethD_ap, onMeth_val, onMeth_ali, lz_ap, raise_ap, try_ap, thunk_raw, thunk_exc, byes_ap, Mi.insAt, lendTo, hand, eChain, Mi.isL, onL, okFl], rfl⟩) (by omega) rfl
  have rt : ∀ a b : Mi.S, restT [4] [a, b, .non, .val (.tup []), .non] [a, b, .non, .val (.tup []), .non] = [a, b, .non, .val (.tup []), .non] := fun a b => rfl
  have co := ecomp_map (own := [3]) (mi := iSeq (eVar 1)) (g := gNam 3) (me := eComp [4] (iSeq (eVar 1)) (gNam 4) bYes (eOp fAdd (eOp fMul (eOp fIx (eVar 3) (eLit (.int 0))) (eOp fIx (eVar 4) (eLit (.int 0)))) (eOp fMul (eOp fIx (eVar 3) (eLit (.int 1))) (eOp fIx (eVar 4) (eLit (.int 1)))))) Q pT (fun p => .lst (Q.map fun q => .int (dot p q))) (τ := [.val (.lst (pT p0 :: r.map pT)), .own (.lst (Q.map pT)), .non, .non, .non]) (τ1 := [.val (.lst (pT p0 :: r.map pT)), .val (.lst (Q.map pT)), .non, .non, .non]) (τ0 := [.val (.lst (pT p0 :: r.map pT)), .val (.lst (Q.map pT)), .non, .non, .non])
    (iseq_ali (.lst (Q.map pT)) (τ1 := [.val (.lst (pT p0 :: r.map pT)), .own (.lst (Q.map pT)), .non, .non, .non]) (i := 1) (by simp only [bnd_ap, of_ap, seq_ap, asg_ap, ret_ap, retN_ap, sif_ap, expr_ap, par_ap, par3_ap, asgT_ap, nil_ap, brk_ap, cnt_ap, give_val, give_own, give_ali, take_val, take_own, take_ali, ta_nil, ta_cons, pk_val, pk_own, pk_ali, pa_nil', pa_cons', var_ap, lit_ap, op_ap, un_ap, cb_ap, lc_ap, ln_ap, tup_ap, lst_ap, cv_ap, ck_ap, cl_ap, and_ap, or_ap, not_ap, eif_ap, bval_ap, bnot_ap, band_ap, bor_ap, gnam_ap, gtup_ap, gend_ap, gcons_ap, rng_ap, for_ap, loop_nil, setIx_ap, run_ap, M.ret, unpk, asB, back, retS, fit_of, sInt, sBl, fIx, fLen, fAbs, fInt, fList, Mi.isNon, fIsN, fNotN, fCmp, fLt, fLe, fGt, fGe, fAdd, fSub, fNeg, O.frz, Mi.pick, List.getElem?_cons_zero, List.getElem?_cons_succ, List.getElem?_nil, List.set_cons_zero, List.set_cons_succ, List.map_cons, List.map_nil, List.length_cons, List.length_nil, List.replicate_succ, List.replicate_zero, List.cons_append, List.nil_append, Option.map_some, Option.map_none, if_true, if_false, Bool.false_eq_true, Bool.not_true, Bool.not_false, decide_true, decide_false, reduceIte, ne_eq, not_true_eq_false, not_false_eq_true, List.getD_cons_zero, List.getD_cons_succ, Nat.reduceAdd, Nat.reduceSub, Nat.reduceLeDiff, Nat.reduceEqDiff, atI_0, atI_1, atI_2, lam_ap, append_ap, make_ap, setF_ap, own_ap, meth_ap, methD_ap, norm_val, norm_own, norm_ali, onMethD_ap, onMeth_val, onMeth_ali, lz_ap, raise_ap, try_ap, thunk_raw, thunk_exc, byes_ap, Mi.insAt, lendTo, hand, eChain, Mi.isL, onL, okFl]) rfl rfl) rfl rfl (fun p hp => ⟨[.val (.lst (pT p0 :: r.map pT)), .val (.lst (Q.map pT)), .non, .val (pT p), .non], [.val (.lst (pT p0 :: r.map pT)), .val (.lst (Q.map pT)), .non, .val (pT p), .non], rfl, by
      have c := ci p hp
      simp only [bnd_ap, c, take_own]
      rfl, rfl⟩) (by omega) rfl
  have rt1 : ∀ a : Mi.S, restT [2] [a, .non, .non, .non, .non] [a, .non, .non, .non, .non] = [a, .non, .non, .non, .non] := fun a => rfl
  rw [rt1] at c1
  rw [f__law_products, run_ap]
  simp only [m__law_products, List.map_cons, c1, co, bnd_ap, of_ap, seq_ap, asg_ap, ret_ap, retN_ap, sif_ap, expr_ap, par_ap, par3_ap, asgT_ap, nil_ap, brk_ap, cnt_ap, give_val, give_own, give_ali, take_val, take_own, take_ali, ta_nil, ta_cons, pk_val, pk_own, pk_ali, pa_nil', pa_cons', var_ap, lit_ap, op_ap, un_ap, cb_ap, lc_ap, ln_ap, tup_ap, lst_ap, cv_ap, ck_ap, cl_ap, and_ap, or_ap, not_ap, eif_ap, bval_ap, bnot_ap, band_ap, bor_ap, gnam_ap, gtup_ap, gend_ap, gcons_ap, rng_ap, for_ap, loop_nil, setIx_ap, run_ap, M.ret, unpk, asB, back, retS, fit_of, sInt, sBl, fIx, fLen, fAbs, fInt, fList, Mi.isNon, fIsN, fNotN, fCmp, fLt, fLe, fGt, fGe, fAdd, fSub, fNeg, O.frz, Mi.pick, List.getElem?_cons_zero, List.getElem?_cons_succ, List.getElem?_nil, List.set_cons_zero, List.set_cons_succ, List.map_cons, List.map_nil, List.length_cons, List.length_nil, List.replicate_succ, List.replicate_zero, List.cons_append, List.nil_append, Option.map_some, Option.map_none, if_true, if_false, Bool.false_eq_true, Bool.not_true, Bool.not_false, decide_true, decide_false, reduceIte, ne_eq, not_true_eq_false, not_false_eq_true, List.getD_cons_zero, List.getD_cons_succ, Nat.reduceAdd, Nat.reduceSub, Nat.reduceLeDiff, Nat.reduceEqDiff, atI_0, atI_1, atI_2, lam_ap, append_ap, make_ap, setF_ap, own_ap, meth_ap, methD_ap, norm_val, norm_own, norm_ali, onMethD_ap, onMeth_val, onMeth_ali, lz_ap, raise_ap, try_ap, thunk_raw, thunk_exc, byes_ap, Mi.insAt, lendTo, hand, eChain, Mi.isL, onL, okFl]
  rfl
theorem meth_products {P : List Pt} (h : Ok P) (hm : ∀ p ∈ stepsP P, Sm p.1 ∧ Sm p.2) (r : List Mi.S) : eMeth "products" mt_products_0 (eVar 0) lNil (.val (pic P) :: r) = .ok (.val (prodT P), .val (pic P) :: r) := by
  have e := products_ok h hm
  have l := ins_pic P "products" (by decide)
  have m : mt_products_0 "Picture" = some f_Picture__products := rfl
  simp only [pic] at e ⊢
  simp only [l, m, e, bnd_ap, of_ap, seq_ap, asg_ap, ret_ap, retN_ap, sif_ap, expr_ap, par_ap, par3_ap, asgT_ap, nil_ap, brk_ap, cnt_ap, give_val, give_own, give_ali, take_val, take_own, take_ali, ta_nil, ta_cons, pk_val, pk_own, pk_ali, pa_nil', pa_cons', var_ap, lit_ap, op_ap, un_ap, cb_ap, lc_ap, ln_ap, tup_ap, lst_ap, cv_ap, ck_ap, cl_ap, and_ap, or_ap, not_ap, eif_ap, bval_ap, bnot_ap, band_ap, bor_ap, gnam_ap, gtup_ap, gend_ap, gcons_ap, rng_ap, for_ap, loop_nil, setIx_ap, run_ap, M.ret, unpk, asB, back, retS, fit_of, sInt, sBl, fIx, fLen, fAbs, fInt, fList, Mi.isNon, fIsN, fNotN, fCmp, fLt, fLe, fGt, fGe, fAdd, fSub, fNeg, O.frz, Mi.pick, List.getElem?_cons_zero, List.getElem?_cons_succ, List.getElem?_nil, List.set_cons_zero, List.set_cons_succ, List.map_cons, List.map_nil, List.length_cons, List.length_nil, List.replicate_succ, List.replicate_zero, List.cons_append, List.nil_append, Option.map_some, Option.map_none, if_true, if_false, Bool.false_eq_true, Bool.not_true, Bool.not_false, decide_true, decide_false, reduceIte, ne_eq, not_true_eq_false, not_false_eq_true, List.getD_cons_zero, List.getD_cons_succ, Nat.reduceAdd, Nat.reduceSub, Nat.reduceLeDiff, Nat.reduceEqDiff, atI_0, atI_1, atI_2, lam_ap, append_ap, make_ap, setF_ap, own_ap, meth_ap, methD_ap, norm_val, norm_own, norm_ali, onMethD_ap, onMeth_val, onMeth_ali, lz_ap, raise_ap, try_ap, thunk_raw, thunk_exc, byes_ap, Mi.insAt, lendTo, hand, eChain, Mi.isL, onL, okFl]
theorem pl_rows (l : List (List Int)) : PlN 2 (.lst (l.map fun r => .lst (r.map .int))) := .lst fun x hx => by
  obtain ⟨r, _, rfl⟩ := List.mem_map.mp hx
  exact .lst pl_ints
/-- Q's products are n times P's -/
theorem are_times_ok {P Q : List Pt} (hP : Ok P) (hQ : Ok Q) (mP : ∀ p ∈ stepsP P, Sm p.1 ∧ Sm p.2) (mQ : ∀ p ∈ stepsP Q, Sm p.1 ∧ Sm p.2) (n : Int) (hn : Sm n) (hd : ∀ p ∈ stepsP P, ∀ q ∈ stepsP P, Sm (dot p q)) (f : Pt → Pt) (hf : stepsP Q = (stepsP P).map f) (he : ∀ p ∈ stepsP P, ∀ q ∈ stepsP P, dot (f p) (f q) = n * dot p q) :
    f__law_are_times [.val (pic Q), .val (.lst (P.map pT)), .val (.int n)] = .ok (.val (.bl true), [.non, .non, .non]) := by
  have e1 := fun r => meth_products hQ mQ r
  have e2 := law_products_ok hP mP
  have lP := steps_len hP
  have lQ := steps_len hQ
  have c1 := ecomp_map (own := [3]) (mi := iSeq (eMeth "products" mt_products_0 (eVar 0) lNil)) (g := gNam 3) (me := eCB fList (lCons (eVar 3) lNil)) (stepsP Q) (fun p => .tup ((stepsP Q).map fun q => .int (dot p q))) (fun p => .lst ((stepsP Q).map fun q => .int (dot p q))) (τ := [.val (pic Q), .val (.lst (P.map pT)), .val (.int n), .non, .non]) (τ1 := [.val (pic Q), .val (.lst (P.map pT)), .val (.int n), .non, .non]) (τ0 := [.val (pic Q), .val (.lst (P.map pT)), .val (.int n), .non, .non])
    (iseq_val (prodT Q) (e1 _) rfl) rfl rfl (fun p hp => ⟨[.val (pic Q), .val (.lst (P.map pT)), .val (.int n), .val (.tup ((stepsP Q).map fun q => .int (dot p q))), .non], [.val (pic Q), .val (.lst (P.map pT)), .val (.int n), .val (.tup ((stepsP Q).map fun q => .int (dot p q))), .non], rfl, by simp only [bnd_ap, of_ap, seq_ap, asg_ap, ret_ap, retN_ap, sif_ap, expr_ap, par_ap, par3_ap, asgT_ap, nil_ap, brk_ap, cnt_ap, give_val, give_own, give_ali, take_val, take_own, take_ali, ta_nil, ta_cons, pk_val, pk_own, pk_ali, pa_nil', pa_cons', var_ap, lit_ap, op_ap, un_ap, cb_ap, lc_ap, ln_ap, tup_ap, lst_ap, cv_ap, ck_ap, cl_ap, and_ap, or_ap, not_ap, eif_ap, bval_ap, bnot_ap, band_ap, bor_ap, gnam_ap, gtup_ap, gend_ap, gcons_ap, rng_ap, for_ap, loop_nil, setIx_ap, run_ap, M.ret, unpk, asB, back, retS, fit_of, sInt, sBl, fIx, fLen, fAbs, fInt, fList, Mi.isNon, fIsN, fNotN, fCmp, fLt, fLe, fGt, fGe, fAdd, fSub, fNeg, O.frz, Mi.pick, List.getElem?_cons_zero, List.getElem?_cons_succ, List.getElem?_nil, List.set_cons_zero, List.set_cons_succ, List.map_cons, List.map_nil, List.length_cons, List.length_nil, List.replicate_succ, List.replicate_zero, List.cons_append, List.nil_append, Option.map_some, Option.map_none, if_true, if_false, Bool.false_eq_true, Bool.not_true, Bool.not_false, decide_true, decide_false, reduceIte, ne_eq, not_true_eq_false, not_false_eq_true, List.getD_cons_zero, List.getD_cons_succ, Nat.reduceAdd, Nat.reduceSub, Nat.reduceLeDiff, Nat.reduceEqDiff, atI_0, atI_1, atI_2, lam_ap, append_ap, make_ap, setF_ap, own_ap, meth_ap, methD_ap, norm_val, norm_own, norm_ali, onMethD_ap, onMeth_val, onMeth_ali, lz_ap, raise_ap, try_ap, thunk_raw, thunk_exc, byes_ap, Mi.insAt, lendTo, hand, eChain, Mi.isL, onL, okFl], rfl⟩) (by omega) rfl
  have ci := fun (p : Pt) (hp : p ∈ stepsP P) => ecomp_map (own := [4]) (mi := iSeq (eVar 3)) (g := gNam 4) (me := eOp fMul (eVar 2) (eVar 4)) (stepsP P) (fun q => .int (dot p q)) (fun q => .int (n * dot p q)) (τ := [.val (pic Q), .val (.lst (P.map pT)), .val (.int n), .val (.lst ((stepsP P).map fun q => .int (dot p q))), .non]) (τ1 := [.val (pic Q), .val (.lst (P.map pT)), .val (.int n), .val (.lst ((stepsP P).map fun q => .int (dot p q))), .non]) (τ0 := [.val (pic Q), .val (.lst (P.map pT)), .val (.int n), .val (.lst ((stepsP P).map fun q => .int (dot p q))), .non])
    (iseq_val (.lst ((stepsP P).map fun q => .int (dot p q))) (by simp only [bnd_ap, of_ap, seq_ap, asg_ap, ret_ap, retN_ap, sif_ap, expr_ap, par_ap, par3_ap, asgT_ap, nil_ap, brk_ap, cnt_ap, give_val, give_own, give_ali, take_val, take_own, take_ali, ta_nil, ta_cons, pk_val, pk_own, pk_ali, pa_nil', pa_cons', var_ap, lit_ap, op_ap, un_ap, cb_ap, lc_ap, ln_ap, tup_ap, lst_ap, cv_ap, ck_ap, cl_ap, and_ap, or_ap, not_ap, eif_ap, bval_ap, bnot_ap, band_ap, bor_ap, gnam_ap, gtup_ap, gend_ap, gcons_ap, rng_ap, for_ap, loop_nil, setIx_ap, run_ap, M.ret, unpk, asB, back, retS, fit_of, sInt, sBl, fIx, fLen, fAbs, fInt, fList, Mi.isNon, fIsN, fNotN, fCmp, fLt, fLe, fGt, fGe, fAdd, fSub, fNeg, O.frz, Mi.pick, List.getElem?_cons_zero, List.getElem?_cons_succ, List.getElem?_nil, List.set_cons_zero, List.set_cons_succ, List.map_cons, List.map_nil, List.length_cons, List.length_nil, List.replicate_succ, List.replicate_zero, List.cons_append, List.nil_append, Option.map_some, Option.map_none, if_true, if_false, Bool.false_eq_true, Bool.not_true, Bool.not_false, decide_true, decide_false, reduceIte, ne_eq, not_true_eq_false, not_false_eq_true, List.getD_cons_zero, List.getD_cons_succ, Nat.reduceAdd, Nat.reduceSub, Nat.reduceLeDiff, Nat.reduceEqDiff, atI_0, atI_1, atI_2, lam_ap, append_ap, make_ap, setF_ap, own_ap, meth_ap, methD_ap, norm_val, norm_own, norm_ali, onMethD_ap, onMeth_val, onMeth_ali, lz_ap, raise_ap, try_ap, thunk_raw, thunk_exc, byes_ap, Mi.insAt, lendTo, hand, eChain, Mi.isL, onL, okFl]) rfl) rfl rfl (fun q hq => ⟨[.val (pic Q), .val (.lst (P.map pT)), .val (.int n), .val (.lst ((stepsP P).map fun q => .int (dot p q))), .val (.int (dot p q))], [.val (pic Q), .val (.lst (P.map pT)), .val (.int n), .val (.lst ((stepsP P).map fun q => .int (dot p q))), .val (.int (dot p q))], rfl, by
      have m := mul_ok hn (hd p hp q hq)
      simp only [m, bnd_ap, of_ap, seq_ap, asg_ap, ret_ap, retN_ap, sif_ap, expr_ap, par_ap, par3_ap, asgT_ap, nil_ap, brk_ap, cnt_ap, give_val, give_own, give_ali, take_val, take_own, take_ali, ta_nil, ta_cons, pk_val, pk_own, pk_ali, pa_nil', pa_cons', var_ap, lit_ap, op_ap, un_ap, cb_ap, lc_ap, ln_ap, tup_ap, lst_ap, cv_ap, ck_ap, cl_ap, and_ap, or_ap, not_ap, eif_ap, bval_ap, bnot_ap, band_ap, bor_ap, gnam_ap, gtup_ap, gend_ap, gcons_ap, rng_ap, for_ap, loop_nil, setIx_ap, run_ap, M.ret, unpk, asB, back, retS, fit_of, sInt, sBl, fIx, fLen, fAbs, fInt, fList, Mi.isNon, fIsN, fNotN, fCmp, fLt, fLe, fGt, fGe, fAdd, fSub, fNeg, O.frz, Mi.pick, List.getElem?_cons_zero, List.getElem?_cons_succ, List.getElem?_nil, List.set_cons_zero, List.set_cons_succ, List.map_cons, List.map_nil, List.length_cons, List.length_nil, List.replicate_succ, List.replicate_zero, List.cons_append, List.nil_append, Option.map_some, Option.map_none, if_true, if_false, Bool.false_eq_true, Bool.not_true, Bool.not_false, decide_true, decide_false, reduceIte, ne_eq, not_true_eq_false, not_false_eq_true, List.getD_cons_zero, List.getD_cons_succ, Nat.reduceAdd, Nat.reduceSub, Nat.reduceLeDiff, Nat.reduceEqDiff, atI_0, atI_1, atI_2, lam_ap, append_ap, make_ap, setF_ap, own_ap, meth_ap, methD_ap, norm_val, norm_own, norm_ali, onMethD_ap, onMeth_val, onMeth_ali, lz_ap, raise_ap, try_ap, thunk_raw, thunk_exc, byes_ap, Mi.insAt, lendTo, hand, eChain, Mi.isL, onL, okFl], rfl⟩) (by omega) rfl
  have c2 := ecomp_map (own := [3]) (mi := iSeq (eCallV f__law_products (lCons (eVar 1) lNil))) (g := gNam 3) (me := eComp [4] (iSeq (eVar 3)) (gNam 4) bYes (eOp fMul (eVar 2) (eVar 4))) (stepsP P) (fun p => .lst ((stepsP P).map fun q => .int (dot p q))) (fun p => .lst ((stepsP P).map fun q => .int (n * dot p q))) (τ := [.val (pic Q), .val (.lst (P.map pT)), .val (.int n), .non, .non]) (τ1 := [.val (pic Q), .val (.lst (P.map pT)), .val (.int n), .non, .non]) (τ0 := [.val (pic Q), .val (.lst (P.map pT)), .val (.int n), .non, .non])
    (iseq_own (.lst (rowsL P)) (by simp only [e2, bnd_ap, of_ap, seq_ap, asg_ap, ret_ap, retN_ap, sif_ap, expr_ap, par_ap, par3_ap, asgT_ap, nil_ap, brk_ap, cnt_ap, give_val, give_own, give_ali, take_val, take_own, take_ali, ta_nil, ta_cons, pk_val, pk_own, pk_ali, pa_nil', pa_cons', var_ap, lit_ap, op_ap, un_ap, cb_ap, lc_ap, ln_ap, tup_ap, lst_ap, cv_ap, ck_ap, cl_ap, and_ap, or_ap, not_ap, eif_ap, bval_ap, bnot_ap, band_ap, bor_ap, gnam_ap, gtup_ap, gend_ap, gcons_ap, rng_ap, for_ap, loop_nil, setIx_ap, run_ap, M.ret, unpk, asB, back, retS, fit_of, sInt, sBl, fIx, fLen, fAbs, fInt, fList, Mi.isNon, fIsN, fNotN, fCmp, fLt, fLe, fGt, fGe, fAdd, fSub, fNeg, O.frz, Mi.pick, List.getElem?_cons_zero, List.getElem?_cons_succ, List.getElem?_nil, List.set_cons_zero, List.set_cons_succ, List.map_cons, List.map_nil, List.length_cons, List.length_nil, List.replicate_succ, List.replicate_zero, List.cons_append, List.nil_append, Option.map_some, Option.map_none, if_true, if_false, Bool.false_eq_true, Bool.not_true, Bool.not_false, decide_true, decide_false, reduceIte, ne_eq, not_true_eq_false, not_false_eq_true, List.getD_cons_zero, List.getD_cons_succ, Nat.reduceAdd, Nat.reduceSub, Nat.reduceLeDiff, Nat.reduceEqDiff, atI_0, atI_1, atI_2, lam_ap, append_ap, make_ap, setF_ap, own_ap, meth_ap, methD_ap, norm_val, norm_own, norm_ali, onMethD_ap, onMeth_val, onMeth_ali, lz_ap, raise_ap, try_ap, thunk_raw, thunk_exc, byes_ap, Mi.insAt, lendTo, hand, eChain, Mi.isL, onL, okFl]) rfl) rfl rfl (fun p hp => ⟨[.val (pic Q), .val (.lst (P.map pT)), .val (.int n), .val (.lst ((stepsP P).map fun q => .int (dot p q))), .non], [.val (pic Q), .val (.lst (P.map pT)), .val (.int n), .val (.lst ((stepsP P).map fun q => .int (dot p q))), .non], rfl, by
      have c := ci p hp
      simp only [bnd_ap, c, take_own]
      rfl, rfl⟩) (by omega) rfl
  have rt : ∀ a b c : Mi.S, restT [3] [a, b, c, .non, .non] [a, b, c, .non, .non] = [a, b, c, .non, .non] := fun a b c => rfl
  rw [rt] at c1 c2
  have same : ((stepsP Q).map fun p => D.lst ((stepsP Q).map fun q => .int (dot p q))) = (stepsP P).map fun p => .lst ((stepsP P).map fun q => .int (n * dot p q)) := by
    rw [hf, List.map_map]
    refine List.map_congr_left fun p hp => ?_
    show D.lst _ = _
    rw [List.map_map]
    refine congrArg D.lst (List.map_congr_left fun q hq => ?_)
    show D.int (dot (f p) (f q)) = _
    rw [he p hp q hq]
  have pl : PlN 2 (.lst ((stepsP P).map fun p => .lst ((stepsP P).map fun q => .int (n * dot p q)))) := .lst fun x hx => by
    obtain ⟨p, _, rfl⟩ := List.mem_map.mp hx
    refine .lst fun y hy => ?_
    obtain ⟨q, _, rfl⟩ := List.mem_map.mp hy
    exact .int _
  have eq := fEq_self pl (by decide)
  rw [same] at c1
  rw [f__law_are_times, run_ap]
  simp only [m__law_are_times, c1, c2, eq, bnd_ap, of_ap, seq_ap, asg_ap, ret_ap, retN_ap, sif_ap, expr_ap, par_ap, par3_ap, asgT_ap, nil_ap, brk_ap, cnt_ap, give_val, give_own, give_ali, take_val, take_own, take_ali, ta_nil, ta_cons, pk_val, pk_own, pk_ali, pa_nil', pa_cons', var_ap, lit_ap, op_ap, un_ap, cb_ap, lc_ap, ln_ap, tup_ap, lst_ap, cv_ap, ck_ap, cl_ap, and_ap, or_ap, not_ap, eif_ap, bval_ap, bnot_ap, band_ap, bor_ap, gnam_ap, gtup_ap, gend_ap, gcons_ap, rng_ap, for_ap, loop_nil, setIx_ap, run_ap, M.ret, unpk, asB, back, retS, fit_of, sInt, sBl, fIx, fLen, fAbs, fInt, fList, Mi.isNon, fIsN, fNotN, fCmp, fLt, fLe, fGt, fGe, fAdd, fSub, fNeg, O.frz, Mi.pick, List.getElem?_cons_zero, List.getElem?_cons_succ, List.getElem?_nil, List.set_cons_zero, List.set_cons_succ, List.map_cons, List.map_nil, List.length_cons, List.length_nil, List.replicate_succ, List.replicate_zero, List.cons_append, List.nil_append, Option.map_some, Option.map_none, if_true, if_false, Bool.false_eq_true, Bool.not_true, Bool.not_false, decide_true, decide_false, reduceIte, ne_eq, not_true_eq_false, not_false_eq_true, List.getD_cons_zero, List.getD_cons_succ, Nat.reduceAdd, Nat.reduceSub, Nat.reduceLeDiff, Nat.reduceEqDiff, atI_0, atI_1, atI_2, lam_ap, append_ap, make_ap, setF_ap, own_ap, meth_ap, methD_ap, norm_val, norm_own, norm_ali, onMethD_ap, onMeth_val, onMeth_ali, lz_ap, raise_ap, try_ap, thunk_raw, thunk_exc, byes_ap, Mi.insAt, lendTo, hand, eChain, Mi.isL, onL, okFl]
end K12

namespace K12
open PySem PySem.Spec PyProof.Rows L2 Mi
/-! #### what is due, what is heard -/
theorem foldl_le (l : List Int) (a m : Int) : l.foldl max a ≤ m ↔ a ≤ m ∧ ∀ x ∈ l, x ≤ m := by
  induction l generalizing a with
  | nil => simp
  | cons x l ih =>
    rw [List.foldl_cons, ih]
    simp only [List.mem_cons, forall_eq_or_imp]
    constructor
    · rintro ⟨h1, h2⟩; exact ⟨by omega, by omega, h2⟩
    · rintro ⟨h1, h2, h3⟩; exact ⟨by omega, h3⟩
def farI (p : Pt) : Int := if (p.2.natAbs : Int) > (p.1.natAbs : Int) then (p.2.natAbs : Int) else (p.1.natAbs : Int)
def farM : List Pt → Int
  | [] => 0
  | p :: P => (P.map farI).foldl max (farI p)
theorem ints_map (P : List Pt) : intsD (P.map fun p => D.int (farI p)) = some (P.map farI) := by
  induction P with
  | nil => rfl
  | cons p P ih => simp only [List.map_cons, intsD, ih, Option.map_some]
theorem farthest_ok {P : List Pt} (h : Ok P) : f__law_farthest [.val (.lst (P.map pT))] = .ok (.val (.int (farM P)), [.non]) := by
  have c := ecomp_map (own := [1]) (mi := iSeq (eVar 0)) (g := gNam 1) (me := eCB fMax2 (lCons (eCB fAbs (lCons (eOp fIx (eVar 1) (eLit (.int 0))) lNil)) (lCons (eCB fAbs (lCons (eOp fIx (eVar 1) (eLit (.int 1))) lNil)) lNil))) P pT (fun p => .int (farI p)) (τ := [.val (.lst (P.map pT)), .non]) (τ1 := [.val (.lst (P.map pT)), .non]) (τ0 := [.val (.lst (P.map pT)), .non])
    (iseq_val (.lst (P.map pT)) (by simp only [bnd_ap, of_ap, seq_ap, asg_ap, ret_ap, retN_ap, sif_ap, expr_ap, par_ap, par3_ap, asgT_ap, nil_ap, brk_ap, cnt_ap, give_val, give_own, give_ali, take_val, take_own, take_ali, ta_nil, ta_cons, pk_val, pk_own, pk_ali, pa_nil', pa_cons', var_ap, lit_ap, op_ap, un_ap, cb_ap, lc_ap, ln_ap, tup_ap, lst_ap, cv_ap, ck_ap, cl_ap, and_ap, or_ap, not_ap, eif_ap, bval_ap, bnot_ap, band_ap, bor_ap, gnam_ap, gtup_ap, gend_ap, gcons_ap, rng_ap, for_ap, loop_nil, setIx_ap, run_ap, M.ret, unpk, asB, back, retS, fit_of, sInt, sBl, fIx, fLen, fAbs, fInt, fList, Mi.isNon, fIsN, fNotN, fCmp, fLt, fLe, fGt, fGe, fAdd, fSub, fNeg, O.frz, Mi.pick, List.getElem?_cons_zero, List.getElem?_cons_succ, List.getElem?_nil, List.set_cons_zero, List.set_cons_succ, List.map_cons, List.map_nil, List.length_cons, List.length_nil, List.replicate_succ, List.replicate_zero, List.cons_append, List.nil_append, Option.map_some, Option.map_none, if_true, if_false, Bool.false_eq_true, Bool.not_true, Bool.not_false, decide_true, decide_false, reduceIte, ne_eq, not_true_eq_false, not_false_eq_true, List.getD_cons_zero, List.getD_cons_succ, Nat.reduceAdd, Nat.reduceSub, Nat.reduceLeDiff, Nat.reduceEqDiff, atI_0, atI_1, atI_2, lam_ap, append_ap, make_ap, setF_ap, own_ap, meth_ap, methD_ap, norm_val, norm_own, norm_ali, onMethD_ap, onMeth_val, onMeth_ali, lz_ap, raise_ap, try_ap, thunk_raw, thunk_exc, byes_ap, Mi.insAt, lendTo, hand, eChain, Mi.isL, onL, okFl]) rfl) rfl rfl (fun p hp => ⟨[.val (.lst (P.map pT)), .val (pT p)], [.val (.lst (P.map pT)), .val (pT p)], rfl, by simp only [pT, fMax2, abs_eq, farI, bnd_ap, of_ap, seq_ap, asg_ap, ret_ap, retN_ap, sif_ap, expr_ap, par_ap, par3_ap, asgT_ap, nil_ap, brk_ap, cnt_ap, give_val, give_own, give_ali, take_val, take_own, take_ali, ta_nil, ta_cons, pk_val, pk_own, pk_ali, pa_nil', pa_cons', var_ap, lit_ap, op_ap, un_ap, cb_ap, lc_ap, ln_ap, tup_ap, lst_ap, cv_ap, ck_ap, cl_ap, and_ap, or_ap, not_ap, eif_ap, bval_ap, bnot_ap, band_ap, bor_ap, gnam_ap, gtup_ap, gend_ap, gcons_ap, rng_ap, for_ap, loop_nil, setIx_ap, run_ap, M.ret, unpk, asB, back, retS, fit_of, sInt, sBl, fIx, fLen, fAbs, fInt, fList, Mi.isNon, fIsN, fNotN, fCmp, fLt, fLe, fGt, fGe, fAdd, fSub, fNeg, O.frz, Mi.pick, List.getElem?_cons_zero, List.getElem?_cons_succ, List.getElem?_nil, List.set_cons_zero, List.set_cons_succ, List.map_cons, List.map_nil, List.length_cons, List.length_nil, List.replicate_succ, List.replicate_zero, List.cons_append, List.nil_append, Option.map_some, Option.map_none, if_true, if_false, Bool.false_eq_true, Bool.not_true, Bool.not_false, decide_true, decide_false, reduceIte, ne_eq, not_true_eq_false, not_false_eq_true, List.getD_cons_zero, List.getD_cons_succ, Nat.reduceAdd, Nat.reduceSub, Nat.reduceLeDiff, Nat.reduceEqDiff, atI_0, atI_1, atI_2, lam_ap, append_ap, make_ap, setF_ap, own_ap, meth_ap, methD_ap, norm_val, norm_own, norm_ali, onMethD_ap, onMeth_val, onMeth_ali, lz_ap, raise_ap, try_ap, thunk_raw, thunk_exc, byes_ap, Mi.insAt, lendTo, hand, eChain, Mi.isL, onL, okFl], rfl⟩) (by have := h.2; omega) rfl
  have rt : ∀ a : Mi.S, restT [1] [a, .non] [a, .non] = [a, .non] := fun a => rfl
  have fm : fMax [.lst (P.map fun p => .int (farI p))] = some (.val (.int (farM P))) := by
    obtain ⟨p, r, rfl⟩ := List.exists_cons_of_ne_nil h.ne
    have e := ints_map (p :: r)
    simp only [List.map_cons] at e
    simp only [fMax, List.map_cons, e, farM]
  rw [rt] at c
  rw [f__law_farthest, run_ap]
  simp only [m__law_farthest, c, fm, bnd_ap, of_ap, seq_ap, asg_ap, ret_ap, retN_ap, sif_ap, expr_ap, par_ap, par3_ap, asgT_ap, nil_ap, brk_ap, cnt_ap, give_val, give_own, give_ali, take_val, take_own, take_ali, ta_nil, ta_cons, pk_val, pk_own, pk_ali, pa_nil', pa_cons', var_ap, lit_ap, op_ap, un_ap, cb_ap, lc_ap, ln_ap, tup_ap, lst_ap, cv_ap, ck_ap, cl_ap, and_ap, or_ap, not_ap, eif_ap, bval_ap, bnot_ap, band_ap, bor_ap, gnam_ap, gtup_ap, gend_ap, gcons_ap, rng_ap, for_ap, loop_nil, setIx_ap, run_ap, M.ret, unpk, asB, back, retS, fit_of, sInt, sBl, fIx, fLen, fAbs, fInt, fList, Mi.isNon, fIsN, fNotN, fCmp, fLt, fLe, fGt, fGe, fAdd, fSub, fNeg, O.frz, Mi.pick, List.getElem?_cons_zero, List.getElem?_cons_succ, List.getElem?_nil, List.set_cons_zero, List.set_cons_succ, List.map_cons, List.map_nil, List.length_cons, List.length_nil, List.replicate_succ, List.replicate_zero, List.cons_append, List.nil_append, Option.map_some, Option.map_none, if_true, if_false, Bool.false_eq_true, Bool.not_true, Bool.not_false, decide_true, decide_false, reduceIte, ne_eq, not_true_eq_false, not_false_eq_true, List.getD_cons_zero, List.getD_cons_succ, Nat.reduceAdd, Nat.reduceSub, Nat.reduceLeDiff, Nat.reduceEqDiff, atI_0, atI_1, atI_2, lam_ap, append_ap, make_ap, setF_ap, own_ap, meth_ap, methD_ap, norm_val, norm_own, norm_ali, onMethD_ap, onMeth_val, onMeth_ali, lz_ap, raise_ap, try_ap, thunk_raw, thunk_exc, byes_ap, Mi.insAt, lendTo, hand, eChain, Mi.isL, onL, okFl]
theorem far_iff {P : List Pt} (h : P ≠ []) : farM P ≤ 1000000000 ↔ P.all nr = true := by
  have one : ∀ p : Pt, farI p ≤ 1000000000 ↔ nr p = true := fun p => by
    rw [nr_iff]
    unfold farI
    split <;> omega
  obtain ⟨p, r, rfl⟩ := List.exists_cons_of_ne_nil h
  simp only [farM, foldl_le, List.all_cons, Bool.and_eq_true, List.all_eq_true, one]
  constructor
  · rintro ⟨h1, h2⟩
    exact ⟨h1, fun q hq => (one q).mp (h2 _ (List.mem_map.mpr ⟨q, hq, rfl⟩))⟩
  · rintro ⟨h1, h2⟩
    refine ⟨h1, fun x hx => ?_⟩
    obtain ⟨q, hq, rfl⟩ := List.mem_map.mp hx
    exact (one q).mpr (h2 q hq)
theorem far_nonneg {P : List Pt} : 0 ≤ farM P := by
  have one : ∀ p : Pt, 0 ≤ farI p := fun p => by unfold farI; split <;> omega
  cases P with
  | nil => exact Int.le_refl _
  | cons p r =>
    have : ∀ (l : List Int) (a : Int), 0 ≤ a → 0 ≤ l.foldl max a := fun l => by
      induction l with
      | nil => intro a h; exact h
      | cons x l ih => intro a h; exact ih _ (by omega)
    exact this _ _ (one p)
theorem far_of {P : List Pt} {m : Int} (h : ∀ p ∈ P, (p.1.natAbs : Int) ≤ m ∧ (p.2.natAbs : Int) ≤ m) (hm : 0 ≤ m) : farM P ≤ m := by
  have one : ∀ p ∈ P, farI p ≤ m := fun p hp => by
    have := h p hp
    unfold farI; split <;> omega
  cases P with
  | nil => exact hm
  | cons p r =>
    simp only [farM, foldl_le]
    refine ⟨one p List.mem_cons_self, fun x hx => ?_⟩
    obtain ⟨q, hq, rfl⟩ := List.mem_map.mp hx
    exact one q (List.mem_cons_of_mem _ hq)
theorem p9 : fPow (.int 10) (.int 9) = some (.val (.int 1000000000)) := by
  rw [pow_ok (by decide) (by decide) (by decide)]
  rfl
def tooM : D := .tup [.str "places", .int 1000000000]
def dueD (P : List Pt) : D := if P.all nr = true then .lst (P.map pT) else tooM
theorem due_ok {P : List Pt} (h : Ok P) : f__law_due [.val (.lst (P.map pT))] = .ok (.val (dueD P), [.non]) := by
  have e := farthest_ok h
  rw [f__law_due, run_ap]
  by_cases hn : P.all nr = true
  · have hf := (far_iff h.ne).mpr hn
    simp only [m__law_due, e, p9, hf, dueD, hn, bnd_ap, of_ap, seq_ap, asg_ap, ret_ap, retN_ap, sif_ap, expr_ap, par_ap, par3_ap, asgT_ap, nil_ap, brk_ap, cnt_ap, give_val, give_own, give_ali, take_val, take_own, take_ali, ta_nil, ta_cons, pk_val, pk_own, pk_ali, pa_nil', pa_cons', var_ap, lit_ap, op_ap, un_ap, cb_ap, lc_ap, ln_ap, tup_ap, lst_ap, cv_ap, ck_ap, cl_ap, and_ap, or_ap, not_ap, eif_ap, bval_ap, bnot_ap, band_ap, bor_ap, gnam_ap, gtup_ap, gend_ap, gcons_ap, rng_ap, for_ap, loop_nil, setIx_ap, run_ap, M.ret, unpk, asB, back, retS, fit_of, sInt, sBl, fIx, fLen, fAbs, fInt, fList, Mi.isNon, fIsN, fNotN, fCmp, fLt, fLe, fGt, fGe, fAdd, fSub, fNeg, O.frz, Mi.pick, List.getElem?_cons_zero, List.getElem?_cons_succ, List.getElem?_nil, List.set_cons_zero, List.set_cons_succ, List.map_cons, List.map_nil, List.length_cons, List.length_nil, List.replicate_succ, List.replicate_zero, List.cons_append, List.nil_append, Option.map_some, Option.map_none, if_true, if_false, Bool.false_eq_true, Bool.not_true, Bool.not_false, decide_true, decide_false, reduceIte, ne_eq, not_true_eq_false, not_false_eq_true, List.getD_cons_zero, List.getD_cons_succ, Nat.reduceAdd, Nat.reduceSub, Nat.reduceLeDiff, Nat.reduceEqDiff, atI_0, atI_1, atI_2, lam_ap, append_ap, make_ap, setF_ap, own_ap, meth_ap, methD_ap, norm_val, norm_own, norm_ali, onMethD_ap, onMeth_val, onMeth_ali, lz_ap, raise_ap, try_ap, thunk_raw, thunk_exc, byes_ap, Mi.insAt, lendTo, hand, eChain, Mi.isL, onL, okFl]
  · have hf : ¬ farM P ≤ 1000000000 := fun z => hn ((far_iff h.ne).mp z)
    have hn' : P.all nr = false := by simpa using hn
    simp only [m__law_due, e, p9, hf, dueD, hn', tooM, bnd_ap, of_ap, seq_ap, asg_ap, ret_ap, retN_ap, sif_ap, expr_ap, par_ap, par3_ap, asgT_ap, nil_ap, brk_ap, cnt_ap, give_val, give_own, give_ali, take_val, take_own, take_ali, ta_nil, ta_cons, pk_val, pk_own, pk_ali, pa_nil', pa_cons', var_ap, lit_ap, op_ap, un_ap, cb_ap, lc_ap, ln_ap, tup_ap, lst_ap, cv_ap, ck_ap, cl_ap, and_ap, or_ap, not_ap, eif_ap, bval_ap, bnot_ap, band_ap, bor_ap, gnam_ap, gtup_ap, gend_ap, gcons_ap, rng_ap, for_ap, loop_nil, setIx_ap, run_ap, M.ret, unpk, asB, back, retS, fit_of, sInt, sBl, fIx, fLen, fAbs, fInt, fList, Mi.isNon, fIsN, fNotN, fCmp, fLt, fLe, fGt, fGe, fAdd, fSub, fNeg, O.frz, Mi.pick, List.getElem?_cons_zero, List.getElem?_cons_succ, List.getElem?_nil, List.set_cons_zero, List.set_cons_succ, List.map_cons, List.map_nil, List.length_cons, List.length_nil, List.replicate_succ, List.replicate_zero, List.cons_append, List.nil_append, Option.map_some, Option.map_none, if_true, if_false, Bool.false_eq_true, Bool.not_true, Bool.not_false, decide_true, decide_false, reduceIte, ne_eq, not_true_eq_false, not_false_eq_true, List.getD_cons_zero, List.getD_cons_succ, Nat.reduceAdd, Nat.reduceSub, Nat.reduceLeDiff, Nat.reduceEqDiff, atI_0, atI_1, atI_2, lam_ap, append_ap, make_ap, setF_ap, own_ap, meth_ap, methD_ap, norm_val, norm_own, norm_ali, onMethD_ap, onMeth_val, onMeth_ali, lz_ap, raise_ap, try_ap, thunk_raw, thunk_exc, byes_ap, Mi.insAt, lendTo, hand, eChain, Mi.isL, onL, okFl]
theorem pl_due (P : List Pt) : PlN 2 (dueD P) := by
  unfold dueD
  split
  · exact pl_lst P
  · refine .tup fun x hx => ?_
    simp only [List.mem_cons, List.not_mem_nil, or_false] at hx
    rcases hx with rfl | rfl
    · exact .str _ (by decide +kernel)
    · exact .int _
def tmE : List (Str × D) := [("most", .int 1000000000), ("what", .str "places")]
theorem heard_pic (P : List Pt) (h : Ok P) : g__law_heard (.ok (pic P)) = .ok (.own (.lst (P.map pT))) := by
  have e1 : fIsi isT [pic P, .cls "Picture"] = some (.val (.bl true)) := rfl
  have th : ∀ (τ : List Mi.S), eThunk (.ok (pic P)) (.raw :: τ) = .ok (.val (pic P), .raw :: τ) := fun τ => rfl
  have c := ecomp_map (own := [4]) (mi := iSeq (eUn (fldD "places" is_places es_places) (eVar 2))) (g := gNam 4) (me := eCB fTuple (lCons (eVar 4) lNil)) P pT pT (τ := [.raw, .val .non, .val (pic P), .non, .non]) (τ1 := [.raw, .val .non, .val (pic P), .non, .non]) (τ0 := [.raw, .val .non, .val (pic P), .non, .non])
    (iseq_val (.tup (P.map pT)) (by simp only [fld_pl, bnd_ap, of_ap, seq_ap, asg_ap, ret_ap, retN_ap, sif_ap, expr_ap, par_ap, par3_ap, asgT_ap, nil_ap, brk_ap, cnt_ap, give_val, give_own, give_ali, take_val, take_own, take_ali, ta_nil, ta_cons, pk_val, pk_own, pk_ali, pa_nil', pa_cons', var_ap, lit_ap, op_ap, un_ap, cb_ap, lc_ap, ln_ap, tup_ap, lst_ap, cv_ap, ck_ap, cl_ap, and_ap, or_ap, not_ap, eif_ap, bval_ap, bnot_ap, band_ap, bor_ap, gnam_ap, gtup_ap, gend_ap, gcons_ap, rng_ap, for_ap, loop_nil, setIx_ap, run_ap, M.ret, unpk, asB, back, retS, fit_of, sInt, sBl, fIx, fLen, fAbs, fInt, fList, Mi.isNon, fIsN, fNotN, fCmp, fLt, fLe, fGt, fGe, fAdd, fSub, fNeg, O.frz, Mi.pick, List.getElem?_cons_zero, List.getElem?_cons_succ, List.getElem?_nil, List.set_cons_zero, List.set_cons_succ, List.map_cons, List.map_nil, List.length_cons, List.length_nil, List.replicate_succ, List.replicate_zero, List.cons_append, List.nil_append, Option.map_some, Option.map_none, if_true, if_false, Bool.false_eq_true, Bool.not_true, Bool.not_false, decide_true, decide_false, reduceIte, ne_eq, not_true_eq_false, not_false_eq_true, List.getD_cons_zero, List.getD_cons_succ, Nat.reduceAdd, Nat.reduceSub, Nat.reduceLeDiff, Nat.reduceEqDiff, atI_0, atI_1, atI_2, lam_ap, append_ap, make_ap, setF_ap, own_ap, meth_ap, methD_ap, norm_val, norm_own, norm_ali, onMethD_ap, onMeth_val, onMeth_ali, lz_ap, raise_ap, try_ap, thunk_raw, thunk_exc, byes_ap, Mi.insAt, lendTo, hand, eChain, Mi.isL, onL, okFl]) rfl) rfl rfl (fun p hp => ⟨[.raw, .val .non, .val (pic P), .non, .val (pT p)], [.raw, .val .non, .val (pic P), .non, .val (pT p)], rfl, by simp only [pT, fTuple, bnd_ap, of_ap, seq_ap, asg_ap, ret_ap, retN_ap, sif_ap, expr_ap, par_ap, par3_ap, asgT_ap, nil_ap, brk_ap, cnt_ap, give_val, give_own, give_ali, take_val, take_own, take_ali, ta_nil, ta_cons, pk_val, pk_own, pk_ali, pa_nil', pa_cons', var_ap, lit_ap, op_ap, un_ap, cb_ap, lc_ap, ln_ap, tup_ap, lst_ap, cv_ap, ck_ap, cl_ap, and_ap, or_ap, not_ap, eif_ap, bval_ap, bnot_ap, band_ap, bor_ap, gnam_ap, gtup_ap, gend_ap, gcons_ap, rng_ap, for_ap, loop_nil, setIx_ap, run_ap, M.ret, unpk, asB, back, retS, fit_of, sInt, sBl, fIx, fLen, fAbs, fInt, fList, Mi.isNon, fIsN, fNotN, fCmp, fLt, fLe, fGt, fGe, fAdd, fSub, fNeg, O.frz, Mi.pick, List.getElem?_cons_zero, List.getElem?_cons_succ, List.getElem?_nil, List.set_cons_zero, List.set_cons_succ, List.map_cons, List.map_nil, List.length_cons, List.length_nil, List.replicate_succ, List.replicate_zero, List.cons_append, List.nil_append, Option.map_some, Option.map_none, if_true, if_false, Bool.false_eq_true, Bool.not_true, Bool.not_false, decide_true, decide_false, reduceIte, ne_eq, not_true_eq_false, not_false_eq_true, List.getD_cons_zero, List.getD_cons_succ, Nat.reduceAdd, Nat.reduceSub, Nat.reduceLeDiff, Nat.reduceEqDiff, atI_0, atI_1, atI_2, lam_ap, append_ap, make_ap, setF_ap, own_ap, meth_ap, methD_ap, norm_val, norm_own, norm_ali, onMethD_ap, onMeth_val, onMeth_ali, lz_ap, raise_ap, try_ap, thunk_raw, thunk_exc, byes_ap, Mi.insAt, lendTo, hand, eChain, Mi.isL, onL, okFl], rfl⟩) (by have := h.2; omega) rfl
  simp only [g__law_heard, runG, m__law_heard, e1, th, c, retS, bnd_ap, of_ap, seq_ap, asg_ap, ret_ap, retN_ap, sif_ap, expr_ap, par_ap, par3_ap, asgT_ap, nil_ap, brk_ap, cnt_ap, give_val, give_own, give_ali, take_val, take_own, take_ali, ta_nil, ta_cons, pk_val, pk_own, pk_ali, pa_nil', pa_cons', var_ap, lit_ap, op_ap, un_ap, cb_ap, lc_ap, ln_ap, tup_ap, lst_ap, cv_ap, ck_ap, cl_ap, and_ap, or_ap, not_ap, eif_ap, bval_ap, bnot_ap, band_ap, bor_ap, gnam_ap, gtup_ap, gend_ap, gcons_ap, rng_ap, for_ap, loop_nil, setIx_ap, run_ap, M.ret, unpk, asB, back, retS, fit_of, sInt, sBl, fIx, fLen, fAbs, fInt, fList, Mi.isNon, fIsN, fNotN, fCmp, fLt, fLe, fGt, fGe, fAdd, fSub, fNeg, O.frz, Mi.pick, List.getElem?_cons_zero, List.getElem?_cons_succ, List.getElem?_nil, List.set_cons_zero, List.set_cons_succ, List.map_cons, List.map_nil, List.length_cons, List.length_nil, List.replicate_succ, List.replicate_zero, List.cons_append, List.nil_append, Option.map_some, Option.map_none, if_true, if_false, Bool.false_eq_true, Bool.not_true, Bool.not_false, decide_true, decide_false, reduceIte, ne_eq, not_true_eq_false, not_false_eq_true, List.getD_cons_zero, List.getD_cons_succ, Nat.reduceAdd, Nat.reduceSub, Nat.reduceLeDiff, Nat.reduceEqDiff, atI_0, atI_1, atI_2, lam_ap, append_ap, make_ap, setF_ap, own_ap, meth_ap, methD_ap, norm_val, norm_own, norm_ali, onMethD_ap, onMeth_val, onMeth_ali, lz_ap, raise_ap, try_ap, thunk_raw, thunk_exc, byes_ap, Mi.insAt, lendTo, hand, eChain, Mi.isL, onL, okFl]
theorem heard_tm : g__law_heard (.exc "TooMany" tmE) = .ok (.val tooM) := by
  have th : ∀ (τ : List Mi.S), eThunk (.exc "TooMany" tmE) (.raw :: τ) = .exc "TooMany" tmE (.raw :: τ) := fun τ => rfl
  have c1 : ct_SeenError "TooMany" = some true := rfl
  have e1 : fIsi isT [.exc "TooMany" tmE, .cls "BadNumber"] = some (.val (.bl false)) := rfl
  have e2 : fIsi isT [.exc "TooMany" tmE, .cls "TooMany"] = some (.val (.bl true)) := rfl
  have f1 : fldD "what" is_what es_what (.exc "TooMany" tmE) = some (.val (.str "places")) := rfl
  have f2 : fldD "most" is_most es_most (.exc "TooMany" tmE) = some (.val (.int 1000000000)) := rfl
  simp only [g__law_heard, runG, m__law_heard, th, c1, e1, e2, f1, f2, retS, tooM, bnd_ap, of_ap, seq_ap, asg_ap, ret_ap, retN_ap, sif_ap, expr_ap, par_ap, par3_ap, asgT_ap, nil_ap, brk_ap, cnt_ap, give_val, give_own, give_ali, take_val, take_own, take_ali, ta_nil, ta_cons, pk_val, pk_own, pk_ali, pa_nil', pa_cons', var_ap, lit_ap, op_ap, un_ap, cb_ap, lc_ap, ln_ap, tup_ap, lst_ap, cv_ap, ck_ap, cl_ap, and_ap, or_ap, not_ap, eif_ap, bval_ap, bnot_ap, band_ap, bor_ap, gnam_ap, gtup_ap, gend_ap, gcons_ap, rng_ap, for_ap, loop_nil, setIx_ap, run_ap, M.ret, unpk, asB, back, retS, fit_of, sInt, sBl, fIx, fLen, fAbs, fInt, fList, Mi.isNon, fIsN, fNotN, fCmp, fLt, fLe, fGt, fGe, fAdd, fSub, fNeg, O.frz, Mi.pick, List.getElem?_cons_zero, List.getElem?_cons_succ, List.getElem?_nil, List.set_cons_zero, List.set_cons_succ, List.map_cons, List.map_nil, List.length_cons, List.length_nil, List.replicate_succ, List.replicate_zero, List.cons_append, List.nil_append, Option.map_some, Option.map_none, if_true, if_false, Bool.false_eq_true, Bool.not_true, Bool.not_false, decide_true, decide_false, reduceIte, ne_eq, not_true_eq_false, not_false_eq_true, List.getD_cons_zero, List.getD_cons_succ, Nat.reduceAdd, Nat.reduceSub, Nat.reduceLeDiff, Nat.reduceEqDiff, atI_0, atI_1, atI_2, lam_ap, append_ap, make_ap, setF_ap, own_ap, meth_ap, methD_ap, norm_val, norm_own, norm_ali, onMethD_ap, onMeth_val, onMeth_ali, lz_ap, raise_ap, try_ap, thunk_raw, thunk_exc, byes_ap, Mi.insAt, lendTo, hand, eChain, Mi.isL, onL, okFl]
theorem heard_bn (w : D) : g__law_heard (.exc "BadNumber" [("part", w)]) = .ok (.val (.tup [.str "number", w])) := by
  have th : ∀ (τ : List Mi.S), eThunk (.exc "BadNumber" [("part", w)]) (.raw :: τ) = .exc "BadNumber" [("part", w)] (.raw :: τ) := fun τ => rfl
  have c1 : ct_SeenError "BadNumber" = some true := rfl
  have e1 : fIsi isT [.exc "BadNumber" [("part", w)], .cls "BadNumber"] = some (.val (.bl true)) := rfl
  have f1 : fldD "part" is_part es_part (.exc "BadNumber" [("part", w)]) = some (.val w) := rfl
  simp only [g__law_heard, runG, m__law_heard, th, c1, e1, f1, retS, bnd_ap, of_ap, seq_ap, asg_ap, ret_ap, retN_ap, sif_ap, expr_ap, par_ap, par3_ap, asgT_ap, nil_ap, brk_ap, cnt_ap, give_val, give_own, give_ali, take_val, take_own, take_ali, ta_nil, ta_cons, pk_val, pk_own, pk_ali, pa_nil', pa_cons', var_ap, lit_ap, op_ap, un_ap, cb_ap, lc_ap, ln_ap, tup_ap, lst_ap, cv_ap, ck_ap, cl_ap, and_ap, or_ap, not_ap, eif_ap, bval_ap, bnot_ap, band_ap, bor_ap, gnam_ap, gtup_ap, gend_ap, gcons_ap, rng_ap, for_ap, loop_nil, setIx_ap, run_ap, M.ret, unpk, asB, back, retS, fit_of, sInt, sBl, fIx, fLen, fAbs, fInt, fList, Mi.isNon, fIsN, fNotN, fCmp, fLt, fLe, fGt, fGe, fAdd, fSub, fNeg, O.frz, Mi.pick, List.getElem?_cons_zero, List.getElem?_cons_succ, List.getElem?_nil, List.set_cons_zero, List.set_cons_succ, List.map_cons, List.map_nil, List.length_cons, List.length_nil, List.replicate_succ, List.replicate_zero, List.cons_append, List.nil_append, Option.map_some, Option.map_none, if_true, if_false, Bool.false_eq_true, Bool.not_true, Bool.not_false, decide_true, decide_false, reduceIte, ne_eq, not_true_eq_false, not_false_eq_true, List.getD_cons_zero, List.getD_cons_succ, Nat.reduceAdd, Nat.reduceSub, Nat.reduceLeDiff, Nat.reduceEqDiff, atI_0, atI_1, atI_2, lam_ap, append_ap, make_ap, setF_ap, own_ap, meth_ap, methD_ap, norm_val, norm_own, norm_ali, onMethD_ap, onMeth_val, onMeth_ali, lz_ap, raise_ap, try_ap, thunk_raw, thunk_exc, byes_ap, Mi.insAt, lendTo, hand, eChain, Mi.isL, onL, okFl]
/-! #### drawn places, drawn turns -/
theorem p6 : fPow (.int 10) (.int 6) = some (.val (.int 1000000)) := by
  rw [pow_ok (by decide) (by decide) (by decide)]
  rfl
def Near (P : List Pt) : Prop := ∀ p ∈ P, (p.1.natAbs : Int) ≤ 1000000 ∧ (p.2.natAbs : Int) ≤ 1000000
/-- a comprehension that draws: the state of the draws is at slot 0 -/
theorem draw_comp {own : List Nat} {mi : M (List D × Pin)} {g : MG} {me : M Mi.S} {its : List D} {τ τ1 : List Mi.S} {rest : List Mi.S} (st : O → Nat → Prop) (Good : D → Prop) (k : Nat) (hi : mi τ = .ok ((its, noPin), τ1)) (hp : own.all (fun i => plainS (τ1.getD i .non)) = true) (o : O) (n : Nat) (hw : wipeT own τ1 = .lent 0 o :: rest) (ho : st o n)
    (each : ∀ x ∈ its, ∀ (o : O) (m : Nat), m ≤ n + k * its.length → st o m → ∃ y o' τ2 τ3, g (.val x) (.lent 0 o :: rest) = .ok ((), τ2) ∧ M.bnd me take τ2 = .ok (y, τ3) ∧ wipeT own τ3 = .lent 0 o' :: rest ∧ Good y ∧ st o' (m + k)) (hl : its.length ≤ 1000) (hr : ∀ o o' : O, realOk (.lent 0 o :: rest) (.lent 0 o' :: rest) = true) :
    ∃ ys o', eComp own mi g bYes me τ = .ok (.own (.lst ys), restT own τ1 (.lent 0 o' :: rest)) ∧ ys.length = its.length ∧ (∀ y ∈ ys, Good y) ∧ st o' (n + k * its.length) := by
  have go : ∀ (xs : List D) (acc : List D) (o : O) (m : Nat), (∀ x ∈ xs, x ∈ its) → acc.length + xs.length ≤ 1000 → m + k * xs.length ≤ n + k * its.length → st o m → ∃ ys o', compM own noPin g bYes me xs acc (.lent 0 o :: rest) = .ok (acc ++ ys, .lent 0 o' :: rest) ∧ ys.length = xs.length ∧ (∀ y ∈ ys, Good y) ∧ st o' (m + k * xs.length) := by
    intro xs
    induction xs with
    | nil => intro acc o m _ _ _ ho; exact ⟨[], o, by rw [comp_nil, List.append_nil], rfl, (fun _ h => by cases h), by simpa using ho⟩
    | cons x xs ih =>
      intro acc o m hm hl hb ho
      rw [List.length_cons] at hb hl
      rw [Nat.mul_succ] at hb
      obtain ⟨y, o1, τ2, τ3, e1, e2, e3, gd, h1⟩ := each x (hm x List.mem_cons_self) o m (by omega) ho
      obtain ⟨ys, o', e, l, g2, h2⟩ := ih (acc ++ [y]) o1 (m + k) (fun z hz => hm z (List.mem_cons_of_mem _ hz)) (by rw [List.length_append, List.length_cons, List.length_nil]; omega) (by omega) h1
      have hf : fitL (acc.length + 1) = some () := fit_of (by omega)
      obtain ⟨s, τ4, e4, e5⟩ := bnd_ok e2
      refine ⟨y :: ys, o', ?_, by rw [List.length_cons, List.length_cons, l], fun z hz => ?_, by rw [List.length_cons, Nat.mul_succ]; rw [show m + (k * xs.length + k) = m + k + k * xs.length by omega]; exact h2⟩
      · rw [comp_cons]
        simp only [e1, byes_ap, bnd_ap, e4, e5, of_ap, hf, M.ret, e3]
        rw [e, List.append_assoc]
        rfl
      · rcases List.mem_cons.mp hz with rfl | hz
        · exact gd
        · exact g2 z hz
  obtain ⟨ys, o', e, l, g2, h2⟩ := go its [] o n (fun _ h => h) (by simpa using hl) (Nat.le_refl _) ho
  refine ⟨ys, o', ?_, l, g2, h2⟩
  rw [ecomp_ap _ _ _ _ _ _ hi hp, hw, e]
  simp only [hr, if_true, List.nil_append]
theorem places_v {o : O} {n : Nat} (h : VS o n) (hn : n < 900000) : ∃ (P : List Pt) (o' : O), f__law_places [.lent 0 o] = .ok (.own (.lst (P.map pT)), [.lent 0 o']) ∧ Ok P ∧ Near P ∧ VS o' (n + 100) := by
  obtain ⟨v, o1, e1, a1, b1, v1⟩ := shot_v (many := 4) h (by omega) (by decide) (by decide)
  obtain ⟨x, o2, e2, m2, v2⟩ := pick_v (xs := [.int 3, .int 3, .int 9, .int 999, .int 1000000]) v1 (by omega) (by simp) (by simp)
  obtain ⟨k, rfl, k0, k1⟩ : ∃ k : Int, x = .int k ∧ 0 ≤ k ∧ k ≤ 1000000 := by
    simp only [List.mem_cons, List.not_mem_nil, or_false] at m2
    rcases m2 with rfl | rfl | rfl | rfl | rfl
    · exact ⟨_, rfl, by omega, by omega⟩
    · exact ⟨_, rfl, by omega, by omega⟩
    · exact ⟨_, rfl, by omega, by omega⟩
    · exact ⟨_, rfl, by omega, by omega⟩
    · exact ⟨_, rfl, by omega, by omega⟩
  have rg : ranged1 [.int (4 + v)] = some (rangeD 0 (4 + v)) := by
    have : inR (4 + v) = true := decide_eq_true ⟨by omega, by omega⟩
    simp only [ranged1, this, if_true]
  have rl : (rangeD 0 (4 + v)).length = (4 + v).toNat := by simp [rangeD]
  have w := mul_l (i := 2) (j := k) (by decide)
  obtain ⟨ys, o3, e3, l3, g3, v3⟩ := draw_comp (own := [3]) (mi := iRng ranged1 (lCons (eVar 1) lNil)) (g := gNam 3) (me := eTup (lCons (eOp fSub (eCallL f__law_shot (lCons (eVar 0) (lCons (eOp fAdd (eOp fMul (eLit (.int 2)) (eVar 2)) (eLit (.int 1))) lNil))) (eVar 2)) (lCons (eOp fSub (eCallL f__law_shot (lCons (eVar 0) (lCons (eOp fAdd (eOp fMul (eLit (.int 2)) (eVar 2)) (eLit (.int 1))) lNil))) (eVar 2)) lNil))) (its := rangeD 0 (4 + v))
    (τ := [.lent 0 o2, .val (.int (4 + v)), .val (.int k), .non]) (τ1 := [.lent 0 o2, .val (.int (4 + v)), .val (.int k), .non]) (rest := [.val (.int (4 + v)), .val (.int k), .non]) VS (fun y => ∃ p : Pt, y = pT p ∧ (p.1.natAbs : Int) ≤ 1000000 ∧ (p.2.natAbs : Int) ≤ 1000000) 2 (by simp only [rg, bnd_ap, of_ap, seq_ap, asg_ap, ret_ap, retN_ap, sif_ap, expr_ap, par_ap, par3_ap, asgT_ap, nil_ap, brk_ap, cnt_ap, give_val, give_own, give_ali, take_val, take_own, take_ali, ta_nil, ta_cons, pk_val, pk_own, pk_ali, pa_nil', pa_cons', var_ap, lit_ap, op_ap, un_ap, cb_ap, lc_ap, ln_ap, tup_ap, lst_ap, cv_ap, ck_ap, cl_ap, and_ap, or_ap, not_ap, eif_ap, bval_ap, bnot_ap, band_ap, bor_ap, gnam_ap, gtup_ap, gend_ap, gcons_ap, rng_ap, for_ap, loop_nil, setIx_ap, run_ap, M.ret, unpk, asB, back, retS, fit_of, sInt, sBl, fIx, fLen, fAbs, fInt, fList, Mi.isNon, fIsN, fNotN, fCmp, fLt, fLe, fGt, fGe, fAdd, fSub, fNeg, O.frz, Mi.pick, List.getElem?_cons_zero, List.getElem?_cons_succ, List.getElem?_nil, List.set_cons_zero, List.set_cons_succ, List.map_cons, List.map_nil, List.length_cons, List.length_nil, List.replicate_succ, List.replicate_zero, List.cons_append, List.nil_append, Option.map_some, Option.map_none, if_true, if_false, Bool.false_eq_true, Bool.not_true, Bool.not_false, decide_true, decide_false, reduceIte, ne_eq, not_true_eq_false, not_false_eq_true, List.getD_cons_zero, List.getD_cons_succ, Nat.reduceAdd, Nat.reduceSub, Nat.reduceLeDiff, Nat.reduceEqDiff, atI_0, atI_1, atI_2, lam_ap, append_ap, make_ap, setF_ap, own_ap, meth_ap, methD_ap, norm_val, norm_own, norm_ali, onMethD_ap, onMeth_val, onMeth_ali, lz_ap, raise_ap, try_ap, thunk_raw, thunk_exc, byes_ap, Mi.insAt, lendTo, hand, eChain, Mi.isL, onL, okFl]) rfl o2 (n + 1 + 1) rfl v2 (fun x hx o m hm ho => by
      rw [rl] at hm
      obtain ⟨a, o4, e4, a4, b4, v4⟩ := shot_v (many := 2 * k + 1) ho (by omega) (by omega) (by omega)
      obtain ⟨b, o5, e5, a5, b5, v5⟩ := shot_v (many := 2 * k + 1) v4 (by omega) (by omega) (by omega)
      exact ⟨pT (a - k, b - k), o5, [.lent 0 o, .val (.int (4 + v)), .val (.int k), .val x], [.lent 0 o5, .val (.int (4 + v)), .val (.int k), .val x], rfl, by simp only [w, e4, e5, bnd_ap, of_ap, seq_ap, asg_ap, ret_ap, retN_ap, sif_ap, expr_ap, par_ap, par3_ap, asgT_ap, nil_ap, brk_ap, cnt_ap, give_val, give_own, give_ali, take_val, take_own, take_ali, ta_nil, ta_cons, pk_val, pk_own, pk_ali, pa_nil', pa_cons', var_ap, lit_ap, op_ap, un_ap, cb_ap, lc_ap, ln_ap, tup_ap, lst_ap, cv_ap, ck_ap, cl_ap, and_ap, or_ap, not_ap, eif_ap, bval_ap, bnot_ap, band_ap, bor_ap, gnam_ap, gtup_ap, gend_ap, gcons_ap, rng_ap, for_ap, loop_nil, setIx_ap, run_ap, M.ret, unpk, asB, back, retS, fit_of, sInt, sBl, fIx, fLen, fAbs, fInt, fList, Mi.isNon, fIsN, fNotN, fCmp, fLt, fLe, fGt, fGe, fAdd, fSub, fNeg, O.frz, Mi.pick, List.getElem?_cons_zero, List.getElem?_cons_succ, List.getElem?_nil, List.set_cons_zero, List.set_cons_succ, List.map_cons, List.map_nil, List.length_cons, List.length_nil, List.replicate_succ, List.replicate_zero, List.cons_append, List.nil_append, Option.map_some, Option.map_none, if_true, if_false, Bool.false_eq_true, Bool.not_true, Bool.not_false, decide_true, decide_false, reduceIte, ne_eq, not_true_eq_false, not_false_eq_true, List.getD_cons_zero, List.getD_cons_succ, Nat.reduceAdd, Nat.reduceSub, Nat.reduceLeDiff, Nat.reduceEqDiff, atI_0, atI_1, atI_2, lam_ap, append_ap, make_ap, setF_ap, own_ap, meth_ap, methD_ap, norm_val, norm_own, norm_ali, onMethD_ap, onMeth_val, onMeth_ali, lz_ap, raise_ap, try_ap, thunk_raw, thunk_exc, byes_ap, Mi.insAt, lendTo, hand, eChain, Mi.isL, onL, okFl], rfl, ⟨_, rfl, by simp only; omega, by simp only; omega⟩, v5⟩) (by rw [rl]; omega) (fun _ _ => rfl)
  obtain ⟨P, hP, nP⟩ : ∃ P : List Pt, ys = P.map pT ∧ Near P := by
    clear e3 l3
    induction ys with
    | nil => exact ⟨[], rfl, fun _ h => nomatch h⟩
    | cons y ys ih =>
      obtain ⟨p, rfl, q1, q2⟩ := g3 y List.mem_cons_self
      obtain ⟨P, rfl, nP⟩ := ih fun z hz => g3 z (List.mem_cons_of_mem _ hz)
      refine ⟨p :: P, rfl, fun z hz => ?_⟩
      rcases List.mem_cons.mp hz with rfl | hz
      · exact ⟨q1, q2⟩
      · exact nP z hz
  subst hP
  rw [List.length_map, rl] at l3
  refine ⟨P, o3, ?_, ⟨by omega, by omega⟩, nP, ?_⟩
  · have rt : restT [3] [.lent 0 o2, .val (.int (4 + v)), .val (.int k), .non] (.lent 0 o3 :: [.val (.int (4 + v)), .val (.int k), .non]) = [.lent 0 o3, .val (.int (4 + v)), .val (.int k), .non] := rfl
    rw [rt] at e3
    rw [f__law_places, run_ap]
    simp only [m__law_places, e1, p6, e2, e3, bnd_ap, of_ap, seq_ap, asg_ap, ret_ap, retN_ap, sif_ap, expr_ap, par_ap, par3_ap, asgT_ap, nil_ap, brk_ap, cnt_ap, give_val, give_own, give_ali, take_val, take_own, take_ali, ta_nil, ta_cons, pk_val, pk_own, pk_ali, pa_nil', pa_cons', var_ap, lit_ap, op_ap, un_ap, cb_ap, lc_ap, ln_ap, tup_ap, lst_ap, cv_ap, ck_ap, cl_ap, and_ap, or_ap, not_ap, eif_ap, bval_ap, bnot_ap, band_ap, bor_ap, gnam_ap, gtup_ap, gend_ap, gcons_ap, rng_ap, for_ap, loop_nil, setIx_ap, run_ap, M.ret, unpk, asB, back, retS, fit_of, sInt, sBl, fIx, fLen, fAbs, fInt, fList, Mi.isNon, fIsN, fNotN, fCmp, fLt, fLe, fGt, fGe, fAdd, fSub, fNeg, O.frz, Mi.pick, List.getElem?_cons_zero, List.getElem?_cons_succ, List.getElem?_nil, List.set_cons_zero, List.set_cons_succ, List.map_cons, List.map_nil, List.length_cons, List.length_nil, List.replicate_succ, List.replicate_zero, List.cons_append, List.nil_append, Option.map_some, Option.map_none, if_true, if_false, Bool.false_eq_true, Bool.not_true, Bool.not_false, decide_true, decide_false, reduceIte, ne_eq, not_true_eq_false, not_false_eq_true, List.getD_cons_zero, List.getD_cons_succ, Nat.reduceAdd, Nat.reduceSub, Nat.reduceLeDiff, Nat.reduceEqDiff, atI_0, atI_1, atI_2, lam_ap, append_ap, make_ap, setF_ap, own_ap, meth_ap, methD_ap, norm_val, norm_own, norm_ali, onMethD_ap, onMeth_val, onMeth_ali, lz_ap, raise_ap, try_ap, thunk_raw, thunk_exc, byes_ap, Mi.insAt, lendTo, hand, eChain, Mi.isL, onL, okFl]
  · obtain ⟨c, s, t, q1, q2, q3, q4⟩ := v3
    exact ⟨c, s, t, q1, q2, by rw [rl] at q3; omega, q4⟩
def two (p : Pt) : D := pT p
theorem two_v {o : O} {n : Nat} (h : VS o n) (hn : n < 900000) : ∃ (p : Pt) (o' : O), f__law_two [.lent 0 o] = .ok (.val (pT p), [.lent 0 o']) ∧ p.1.natAbs ≤ 1000 ∧ p.2.natAbs ≤ 1000 ∧ VS o' (n + 10) := by
  have up : ∀ {o : O} {a b : Nat}, VS o a → a ≤ b → VS o b := fun {o a b} h l => by
    obtain ⟨c, s, t, q1, q2, q3, q4⟩ := h
    exact ⟨c, s, t, q1, q2, by omega, q4⟩
  obtain ⟨v, o1, e1, a1, b1, v1⟩ := shot_v (many := 6) h (by omega) (by decide) (by decide)
  rw [f__law_two, run_ap]
  by_cases h3 : v < 3
  · obtain ⟨a, o2, e2, a2, b2, v2⟩ := shot_v (many := 7) v1 (by omega) (by decide) (by decide)
    obtain ⟨b, o3, e3, a3, b3, v3⟩ := shot_v (many := 7) v2 (by omega) (by decide) (by decide)
    refine ⟨(a - 3, b - 3), o3, ?_, by simp only; omega, by simp only; omega, up v3 (by omega)⟩
    simp only [m__law_two, e1, h3, e2, e3, bnd_ap, of_ap, seq_ap, asg_ap, ret_ap, retN_ap, sif_ap, expr_ap, par_ap, par3_ap, asgT_ap, nil_ap, brk_ap, cnt_ap, give_val, give_own, give_ali, take_val, take_own, take_ali, ta_nil, ta_cons, pk_val, pk_own, pk_ali, pa_nil', pa_cons', var_ap, lit_ap, op_ap, un_ap, cb_ap, lc_ap, ln_ap, tup_ap, lst_ap, cv_ap, ck_ap, cl_ap, and_ap, or_ap, not_ap, eif_ap, bval_ap, bnot_ap, band_ap, bor_ap, gnam_ap, gtup_ap, gend_ap, gcons_ap, rng_ap, for_ap, loop_nil, setIx_ap, run_ap, M.ret, unpk, asB, back, retS, fit_of, sInt, sBl, fIx, fLen, fAbs, fInt, fList, Mi.isNon, fIsN, fNotN, fCmp, fLt, fLe, fGt, fGe, fAdd, fSub, fNeg, O.frz, Mi.pick, List.getElem?_cons_zero, List.getElem?_cons_succ, List.getElem?_nil, List.set_cons_zero, List.set_cons_succ, List.map_cons, List.map_nil, List.length_cons, List.length_nil, List.replicate_succ, List.replicate_zero, List.cons_append, List.nil_append, Option.map_some, Option.map_none, if_true, if_false, Bool.false_eq_true, Bool.not_true, Bool.not_false, decide_true, decide_false, reduceIte, ne_eq, not_true_eq_false, not_false_eq_true, List.getD_cons_zero, List.getD_cons_succ, Nat.reduceAdd, Nat.reduceSub, Nat.reduceLeDiff, Nat.reduceEqDiff, atI_0, atI_1, atI_2, lam_ap, append_ap, make_ap, setF_ap, own_ap, meth_ap, methD_ap, norm_val, norm_own, norm_ali, onMethD_ap, onMeth_val, onMeth_ali, lz_ap, raise_ap, try_ap, thunk_raw, thunk_exc, byes_ap, Mi.insAt, lendTo, hand, eChain, Mi.isL, onL, okFl]
  · by_cases h4 : v = 3
    · subst h4
      obtain ⟨x, o2, e2, m2, v2⟩ := pick_v (xs := [.tup [.int 3, .int 4], .tup [.int (-4), .int 3], .tup [.int 5, .int (-12)], .tup [.int 0, .int (-1)], .tup [.int (-1), .int 0], .tup [.int 1, .int 0]]) v1 (by omega) (by simp) (by simp)
      have hx : ∃ p : Pt, x = pT p ∧ p.1.natAbs ≤ 1000 ∧ p.2.natAbs ≤ 1000 := by
        simp only [List.mem_cons, List.not_mem_nil, or_false] at m2
        rcases m2 with rfl | rfl | rfl | rfl | rfl | rfl
        · exact ⟨(3, 4), rfl, by decide, by decide⟩
        · exact ⟨(-4, 3), rfl, by decide, by decide⟩
        · exact ⟨(5, -12), rfl, by decide, by decide⟩
        · exact ⟨(0, -1), rfl, by decide, by decide⟩
        · exact ⟨(-1, 0), rfl, by decide, by decide⟩
        · exact ⟨(1, 0), rfl, by decide, by decide⟩
      obtain ⟨p, rfl, q1, q2⟩ := hx
      refine ⟨p, o2, ?_, q1, q2, up v2 (by omega)⟩
      have e3 : fEq (.int 3) (.int 3) = some (.val (.bl true)) := by rw [Mi.eq_int]; rfl
      simp only [m__law_two, e1, e2, e3, Int.lt_irrefl, bnd_ap, of_ap, seq_ap, asg_ap, ret_ap, retN_ap, sif_ap, expr_ap, par_ap, par3_ap, asgT_ap, nil_ap, brk_ap, cnt_ap, give_val, give_own, give_ali, take_val, take_own, take_ali, ta_nil, ta_cons, pk_val, pk_own, pk_ali, pa_nil', pa_cons', var_ap, lit_ap, op_ap, un_ap, cb_ap, lc_ap, ln_ap, tup_ap, lst_ap, cv_ap, ck_ap, cl_ap, and_ap, or_ap, not_ap, eif_ap, bval_ap, bnot_ap, band_ap, bor_ap, gnam_ap, gtup_ap, gend_ap, gcons_ap, rng_ap, for_ap, loop_nil, setIx_ap, run_ap, M.ret, unpk, asB, back, retS, fit_of, sInt, sBl, fIx, fLen, fAbs, fInt, fList, Mi.isNon, fIsN, fNotN, fCmp, fLt, fLe, fGt, fGe, fAdd, fSub, fNeg, O.frz, Mi.pick, List.getElem?_cons_zero, List.getElem?_cons_succ, List.getElem?_nil, List.set_cons_zero, List.set_cons_succ, List.map_cons, List.map_nil, List.length_cons, List.length_nil, List.replicate_succ, List.replicate_zero, List.cons_append, List.nil_append, Option.map_some, Option.map_none, if_true, if_false, Bool.false_eq_true, Bool.not_true, Bool.not_false, decide_true, decide_false, reduceIte, ne_eq, not_true_eq_false, not_false_eq_true, List.getD_cons_zero, List.getD_cons_succ, Nat.reduceAdd, Nat.reduceSub, Nat.reduceLeDiff, Nat.reduceEqDiff, atI_0, atI_1, atI_2, lam_ap, append_ap, make_ap, setF_ap, own_ap, meth_ap, methD_ap, norm_val, norm_own, norm_ali, onMethD_ap, onMeth_val, onMeth_ali, lz_ap, raise_ap, try_ap, thunk_raw, thunk_exc, byes_ap, Mi.insAt, lendTo, hand, eChain, Mi.isL, onL, okFl]
    · have e3 : fEq (.int v) (.int 3) = some (.val (.bl false)) := by rw [Mi.eq_int]; simp [h4]
      by_cases h5 : v = 4
      · subst h5
        have e4 : fEq (.int 4) (.int 4) = some (.val (.bl true)) := by rw [Mi.eq_int]; rfl
        refine ⟨(0, 0), o1, ?_, by decide, by decide, up v1 (by omega)⟩
        simp only [m__law_two, e1, h3, e3, e4, bnd_ap, of_ap, seq_ap, asg_ap, ret_ap, retN_ap, sif_ap, expr_ap, par_ap, par3_ap, asgT_ap, nil_ap, brk_ap, cnt_ap, give_val, give_own, give_ali, take_val, take_own, take_ali, ta_nil, ta_cons, pk_val, pk_own, pk_ali, pa_nil', pa_cons', var_ap, lit_ap, op_ap, un_ap, cb_ap, lc_ap, ln_ap, tup_ap, lst_ap, cv_ap, ck_ap, cl_ap, and_ap, or_ap, not_ap, eif_ap, bval_ap, bnot_ap, band_ap, bor_ap, gnam_ap, gtup_ap, gend_ap, gcons_ap, rng_ap, for_ap, loop_nil, setIx_ap, run_ap, M.ret, unpk, asB, back, retS, fit_of, sInt, sBl, fIx, fLen, fAbs, fInt, fList, Mi.isNon, fIsN, fNotN, fCmp, fLt, fLe, fGt, fGe, fAdd, fSub, fNeg, O.frz, Mi.pick, List.getElem?_cons_zero, List.getElem?_cons_succ, List.getElem?_nil, List.set_cons_zero, List.set_cons_succ, List.map_cons, List.map_nil, List.length_cons, List.length_nil, List.replicate_succ, List.replicate_zero, List.cons_append, List.nil_append, Option.map_some, Option.map_none, if_true, if_false, Bool.false_eq_true, Bool.not_true, Bool.not_false, decide_true, decide_false, reduceIte, ne_eq, not_true_eq_false, not_false_eq_true, List.getD_cons_zero, List.getD_cons_succ, Nat.reduceAdd, Nat.reduceSub, Nat.reduceLeDiff, Nat.reduceEqDiff, atI_0, atI_1, atI_2, lam_ap, append_ap, make_ap, setF_ap, own_ap, meth_ap, methD_ap, norm_val, norm_own, norm_ali, onMethD_ap, onMeth_val, onMeth_ali, lz_ap, raise_ap, try_ap, thunk_raw, thunk_exc, byes_ap, Mi.insAt, lendTo, hand, eChain, Mi.isL, onL, okFl]
      · have e4 : fEq (.int v) (.int 4) = some (.val (.bl false)) := by rw [Mi.eq_int]; simp [h5]
        obtain ⟨a, o2, e2, a2, b2, v2⟩ := shot_v (many := 2001) v1 (by omega) (by decide) (by decide)
        obtain ⟨b, o3, e5, a3, b3, v3⟩ := shot_v (many := 2001) v2 (by omega) (by decide) (by decide)
        refine ⟨(a - 1000, b - 1000), o3, ?_, by simp only; omega, by simp only; omega, up v3 (by omega)⟩
        simp only [m__law_two, e1, h3, e3, e4, e2, e5, bnd_ap, of_ap, seq_ap, asg_ap, ret_ap, retN_ap, sif_ap, expr_ap, par_ap, par3_ap, asgT_ap, nil_ap, brk_ap, cnt_ap, give_val, give_own, give_ali, take_val, take_own, take_ali, ta_nil, ta_cons, pk_val, pk_own, pk_ali, pa_nil', pa_cons', var_ap, lit_ap, op_ap, un_ap, cb_ap, lc_ap, ln_ap, tup_ap, lst_ap, cv_ap, ck_ap, cl_ap, and_ap, or_ap, not_ap, eif_ap, bval_ap, bnot_ap, band_ap, bor_ap, gnam_ap, gtup_ap, gend_ap, gcons_ap, rng_ap, for_ap, loop_nil, setIx_ap, run_ap, M.ret, unpk, asB, back, retS, fit_of, sInt, sBl, fIx, fLen, fAbs, fInt, fList, Mi.isNon, fIsN, fNotN, fCmp, fLt, fLe, fGt, fGe, fAdd, fSub, fNeg, O.frz, Mi.pick, List.getElem?_cons_zero, List.getElem?_cons_succ, List.getElem?_nil, List.set_cons_zero, List.set_cons_succ, List.map_cons, List.map_nil, List.length_cons, List.length_nil, List.replicate_succ, List.replicate_zero, List.cons_append, List.nil_append, Option.map_some, Option.map_none, if_true, if_false, Bool.false_eq_true, Bool.not_true, Bool.not_false, decide_true, decide_false, reduceIte, ne_eq, not_true_eq_false, not_false_eq_true, List.getD_cons_zero, List.getD_cons_succ, Nat.reduceAdd, Nat.reduceSub, Nat.reduceLeDiff, Nat.reduceEqDiff, atI_0, atI_1, atI_2, lam_ap, append_ap, make_ap, setF_ap, own_ap, meth_ap, methD_ap, norm_val, norm_own, norm_ali, onMethD_ap, onMeth_val, onMeth_ali, lz_ap, raise_ap, try_ap, thunk_raw, thunk_exc, byes_ap, Mi.insAt, lendTo, hand, eChain, Mi.isL, onL, okFl]
end K12

namespace K12
open PySem PySem.Spec PyProof.Rows L2 Mi
/-! #### turned, heard, due -/
def resT (Q : List Pt) (τ : List Mi.S) : R (Mi.S × List Mi.S) := if Q.all nr = true then .ok (.own (pO Q), τ) else .exc "TooMany" tmE τ
theorem law_at_ok {P : List Pt} (h : Ok P) (hP : SmP P) {x y : Int} (hx : Sm x) (hy : Sm y) : f__law_at [.val (.lst (P.map pT)), .val (.int x), .val (.int y)] = .ok (.own (.lst ((turnP x y P).map pT)), [.non, .non, .non]) := by
  have c := ecomp_map (own := [3]) (mi := iSeq (eVar 0)) (g := gNam 3) (me := eTup (lCons (eOp fSub (eOp fMul (eVar 1) (eOp fIx (eVar 3) (eLit (.int 0)))) (eOp fMul (eVar 2) (eOp fIx (eVar 3) (eLit (.int 1))))) (lCons (eOp fAdd (eOp fMul (eVar 2) (eOp fIx (eVar 3) (eLit (.int 0)))) (eOp fMul (eVar 1) (eOp fIx (eVar 3) (eLit (.int 1))))) lNil))) P pT (fun p => pT (x * p.1 - y * p.2, y * p.1 + x * p.2)) (τ := [.val (.lst (P.map pT)), .val (.int x), .val (.int y), .non]) (τ1 := [.val (.lst (P.map pT)), .val (.int x), .val (.int y), .non]) (τ0 := [.val (.lst (P.map pT)), .val (.int x), .val (.int y), .non])
    (iseq_val (.lst (P.map pT)) (by simp only [bnd_ap, of_ap, seq_ap, asg_ap, ret_ap, retN_ap, sif_ap, expr_ap, par_ap, par3_ap, asgT_ap, nil_ap, brk_ap, cnt_ap, give_val, give_own, give_ali, take_val, take_own, take_ali, ta_nil, ta_cons, pk_val, pk_own, pk_ali, pa_nil', pa_cons', var_ap, lit_ap, op_ap, un_ap, cb_ap, lc_ap, ln_ap, tup_ap, lst_ap, cv_ap, ck_ap, cl_ap, and_ap, or_ap, not_ap, eif_ap, bval_ap, bnot_ap, band_ap, bor_ap, gnam_ap, gtup_ap, gend_ap, gcons_ap, rng_ap, for_ap, loop_nil, setIx_ap, run_ap, M.ret, unpk, asB, back, retS, fit_of, sInt, sBl, fIx, fLen, fAbs, fInt, fList, Mi.isNon, fIsN, fNotN, fCmp, fLt, fLe, fGt, fGe, fAdd, fSub, fNeg, O.frz, Mi.pick, List.getElem?_cons_zero, List.getElem?_cons_succ, List.getElem?_nil, List.set_cons_zero, List.set_cons_succ, List.map_cons, List.map_nil, List.length_cons, List.length_nil, List.replicate_succ, List.replicate_zero, List.cons_append, List.nil_append, Option.map_some, Option.map_none, if_true, if_false, Bool.false_eq_true, Bool.not_true, Bool.not_false, decide_true, decide_false, reduceIte, ne_eq, not_true_eq_false, not_false_eq_true, List.getD_cons_zero, List.getD_cons_succ, Nat.reduceAdd, Nat.reduceSub, Nat.reduceLeDiff, Nat.reduceEqDiff, atI_0, atI_1, atI_2, lam_ap, append_ap, make_ap, setF_ap, own_ap, meth_ap, methD_ap, norm_val, norm_own, norm_ali, onMethD_ap, onMeth_val, onMeth_ali, lz_ap, raise_ap, try_ap, thunk_raw, thunk_exc, byes_ap, Mi.insAt, lendTo, hand, eChain, Mi.isL, onL, okFl]) rfl) rfl rfl (fun p hp => ⟨[.val (.lst (P.map pT)), .val (.int x), .val (.int y), .val (pT p)], [.val (.lst (P.map pT)), .val (.int x), .val (.int y), .val (pT p)], rfl, by
      obtain ⟨a, b⟩ := hP p hp
      have m1 := mul_ok hx a
      have m2 := mul_ok hy b
      have m3 := mul_ok hy a
      have m4 := mul_ok hx b
      simp only [pT, m1, m2, m3, m4, bnd_ap, of_ap, seq_ap, asg_ap, ret_ap, retN_ap, sif_ap, expr_ap, par_ap, par3_ap, asgT_ap, nil_ap, brk_ap, cnt_ap, give_val, give_own, give_ali, take_val, take_own, take_ali, ta_nil, ta_cons, pk_val, pk_own, pk_ali, pa_nil', pa_cons', var_ap, lit_ap, op_ap, un_ap, cb_ap, lc_ap, ln_ap, tup_ap, lst_ap, cv_ap, ck_ap, cl_ap, and_ap, or_ap, not_ap, eif_ap, bval_ap, bnot_ap, band_ap, bor_ap, gnam_ap, gtup_ap, gend_ap, gcons_ap, rng_ap, for_ap, loop_nil, setIx_ap, run_ap, M.ret, unpk, asB, back, retS, fit_of, sInt, sBl, fIx, fLen, fAbs, fInt, fList, Mi.isNon, fIsN, fNotN, fCmp, fLt, fLe, fGt, fGe, fAdd, fSub, fNeg, O.frz, Mi.pick, List.getElem?_cons_zero, List.getElem?_cons_succ, List.getElem?_nil, List.set_cons_zero, List.set_cons_succ, List.map_cons, List.map_nil, List.length_cons, List.length_nil, List.replicate_succ, List.replicate_zero, List.cons_append, List.nil_append, Option.map_some, Option.map_none, if_true, if_false, Bool.false_eq_true, Bool.not_true, Bool.not_false, decide_true, decide_false, reduceIte, ne_eq, not_true_eq_false, not_false_eq_true, List.getD_cons_zero, List.getD_cons_succ, Nat.reduceAdd, Nat.reduceSub, Nat.reduceLeDiff, Nat.reduceEqDiff, atI_0, atI_1, atI_2, lam_ap, append_ap, make_ap, setF_ap, own_ap, meth_ap, methD_ap, norm_val, norm_own, norm_ali, onMethD_ap, onMeth_val, onMeth_ali, lz_ap, raise_ap, try_ap, thunk_raw, thunk_exc, byes_ap, Mi.insAt, lendTo, hand, eChain, Mi.isL, onL, okFl], rfl⟩) (by have := h.2; omega) rfl
  have rt : ∀ a b c : Mi.S, restT [3] [a, b, c, .non] [a, b, c, .non] = [a, b, c, .non] := fun a b c => rfl
  have mp : (P.map fun p => pT (x * p.1 - y * p.2, y * p.1 + x * p.2)) = (turnP x y P).map pT := map_pT P fun p => (x * p.1 - y * p.2, y * p.1 + x * p.2)
  rw [rt, mp] at c
  rw [f__law_at, run_ap]
  simp only [m__law_at, c, bnd_ap, of_ap, seq_ap, asg_ap, ret_ap, retN_ap, sif_ap, expr_ap, par_ap, par3_ap, asgT_ap, nil_ap, brk_ap, cnt_ap, give_val, give_own, give_ali, take_val, take_own, take_ali, ta_nil, ta_cons, pk_val, pk_own, pk_ali, pa_nil', pa_cons', var_ap, lit_ap, op_ap, un_ap, cb_ap, lc_ap, ln_ap, tup_ap, lst_ap, cv_ap, ck_ap, cl_ap, and_ap, or_ap, not_ap, eif_ap, bval_ap, bnot_ap, band_ap, bor_ap, gnam_ap, gtup_ap, gend_ap, gcons_ap, rng_ap, for_ap, loop_nil, setIx_ap, run_ap, M.ret, unpk, asB, back, retS, fit_of, sInt, sBl, fIx, fLen, fAbs, fInt, fList, Mi.isNon, fIsN, fNotN, fCmp, fLt, fLe, fGt, fGe, fAdd, fSub, fNeg, O.frz, Mi.pick, List.getElem?_cons_zero, List.getElem?_cons_succ, List.getElem?_nil, List.set_cons_zero, List.set_cons_succ, List.map_cons, List.map_nil, List.length_cons, List.length_nil, List.replicate_succ, List.replicate_zero, List.cons_append, List.nil_append, Option.map_some, Option.map_none, if_true, if_false, Bool.false_eq_true, Bool.not_true, Bool.not_false, decide_true, decide_false, reduceIte, ne_eq, not_true_eq_false, not_false_eq_true, List.getD_cons_zero, List.getD_cons_succ, Nat.reduceAdd, Nat.reduceSub, Nat.reduceLeDiff, Nat.reduceEqDiff, atI_0, atI_1, atI_2, lam_ap, append_ap, make_ap, setF_ap, own_ap, meth_ap, methD_ap, norm_val, norm_own, norm_ali, onMethD_ap, onMeth_val, onMeth_ali, lz_ap, raise_ap, try_ap, thunk_raw, thunk_exc, byes_ap, Mi.insAt, lendTo, hand, eChain, Mi.isL, onL, okFl]
  first | done | rfl
def hsS (Q : List Pt) : Mi.S := if Q.all nr = true then .own (.lst (Q.map pT)) else .val tooM
theorem hs_t {Q : List Pt} (h : Q.all nr = true) : hsS Q = .own (.lst (Q.map pT)) := if_pos h
theorem hs_f {Q : List Pt} (h : Q.all nr = false) : hsS Q = .val tooM := if_neg (by rw [h]; decide)
theorem hs_pk (Q : List Pt) (τ : List Mi.S) : peek (hsS Q) τ = .ok (dueD Q, τ) := by
  unfold hsS dueD
  split <;> rfl
theorem hs_give (Q : List Pt) (τ : List Mi.S) : give (hsS Q) τ = .ok (hsS Q, τ) := by
  unfold hsS
  split <;> rfl
theorem thk_res {Q : List Pt} {me : M Mi.S} {τ τ' : List Mi.S} (h : Ok Q) (e : me (only τ) = resT Q τ') : g__law_heard (thk me τ) = .ok (hsS Q) := by
  unfold resT at e
  unfold hsS
  split at e
  · rename_i hq
    rw [thk_own e, frz_pO, heard_pic Q h, if_pos hq]
  · rename_i hq
    rw [thk_exc e, heard_tm, if_neg hq]
/-- heard(lambda: ..) -/
theorem lam_res {cap : List Nat} {Q : List Pt} {me : M Mi.S} {τ τ1 τ' : List Mi.S} {ds : List D} (hc : takeAll (cap.map .ali) τ = .ok (ds, τ1)) (h : Ok Q) (e : me (only τ1) = resT Q τ') : eLam cap me g__law_heard τ = .ok (hsS Q, τ1) := by
  simp only [lam_ap, bnd_ap, hc, thk_res h e]
theorem lam_exc {cap : List Nat} {me : M Mi.S} {τ τ1 τ' : List Mi.S} {ds : List D} {w : D} (hc : takeAll (cap.map .ali) τ = .ok (ds, τ1)) (e : me (only τ1) = .exc "BadNumber" [("part", w)] τ') : eLam cap me g__law_heard τ = .ok (.val (.tup [.str "number", w]), τ1) := by
  simp only [lam_ap, bnd_ap, hc, thk_exc e, heard_bn]
/-- o.turned(..) -/
theorem mD_turned {ix : List Nat} {nn : Nat} {tab : Str → Option Fn} {mo : M Mi.S} {ms : M (List Mi.S)} {τ τ0 τ1 τ2 τ3 : List Mi.S} {s : Mi.S} {ss : List Mi.S} {ds : List D} {P : List Pt} {x y : Int} (ht : tab "Picture" = some f_Picture__turned) (h1 : mo τ = .ok (s, τ0)) (h0 : norm s τ0 = .ok (.val (pic P), τ1)) (h2 : ms τ1 = .ok (ss, τ2)) (h3 : takeAll ss τ2 = .ok (ds, τ3)) (h4 : ds.length = nn)
    (h5 : pick .non ix (ds ++ [.int 0, .int 1]) = [.int x, .int y]) (h : Ok P) (hP : SmP P) (hx : Sm x) (hy : Sm y) : eMethD "turned" ix nn [.int 0, .int 1] tab mo ms τ = resT (turnP x y P) τ3 := by
  have e := turned_ok (s := .val (pic P)) (t := .non) (.inl ⟨rfl, rfl⟩) h x y hP hx hy
  have l := ins_pic P "turned" (by decide)
  unfold resT
  unfold res at e
  have ia : Mi.insAt τ1 (.val (pic P)) = some (("Picture" : Str), pf P) := rfl
  by_cases hn : (turnP x y P).all nr = true
  · rw [if_pos hn] at e ⊢
    simp only [methD_ap, bnd_ap, h1, h0, ia, ht, l, h2, onMethD_ap, h3, h4, if_true, h5, List.map_cons, List.map_nil, onMeth_val, ta_cons, ta_nil, tk_v, M.ret, e]
  · rw [if_neg hn] at e ⊢
    simp only [methD_ap, bnd_ap, h1, h0, ia, ht, l, h2, onMethD_ap, h3, h4, if_true, h5, List.map_cons, List.map_nil, onMeth_val, ta_cons, ta_nil, tk_v, M.ret, e]
    rfl
theorem m_mirrored {mo : M Mi.S} {τ τ0 τ1 : List Mi.S} {s : Mi.S} {P : List Pt} (h1 : mo τ = .ok (s, τ0)) (h0 : norm s τ0 = .ok (.val (pic P), τ1)) (h : Ok P) (hn : P.all nr = true) : eMeth "mirrored" mt_mirrored_0 mo lNil τ = .ok (.own (pO (mirP P)), τ1) := by
  have e := mirrored_ok (s := .val (pic P)) (t := .non) (.inl ⟨rfl, rfl⟩) h hn
  have l := ins_pic P "mirrored" (by decide)
  have m : mt_mirrored_0 "Picture" = some f_Picture__mirrored := rfl
  have ia : Mi.insAt τ1 (.val (pic P)) = some (("Picture" : Str), pf P) := rfl
  simp only [meth_ap, bnd_ap, h1, h0, ia, m, l, ln_ap, onMeth_val, ta_nil, List.map_cons, List.map_nil, e]
/-- due(at(..)) -/
theorem dueat {m1 m2 m3 : M Mi.S} {τ τ1 τ2 : List Mi.S} {s1 : Mi.S} {P : List Pt} {x y : Int} (h1 : m1 τ = .ok (s1, τ1)) (h2 : m2 τ1 = .ok (.val (.int x), τ1)) (h3 : m3 τ1 = .ok (.val (.int y), τ1)) (t1 : take s1 τ1 = .ok (.lst (P.map pT), τ2)) (h : Ok P) (hP : SmP P) (hx : Sm x) (hy : Sm y) :
    eCallV f__law_due (lCons (eCallV f__law_at (lCons m1 (lCons m2 (lCons m3 lNil)))) lNil) τ = .ok (.val (dueD (turnP x y P)), τ2) :=
  call_1 (call_3 h1 h2 h3 t1 tk_v tk_v (law_at_ok h hP hx hy)) tk_o (due_ok (h.map _))
theorem sm_near {P : List Pt} (h : Near P) : SmP P := fun p hp => ⟨sm_of (by have := (h p hp).1; omega), sm_of (by have := (h p hp).2; omega)⟩
theorem sm_nr {P : List Pt} (h : P.all nr = true) : SmP P := fun p hp => by
  have := nr_iff.mp (List.all_eq_true.mp h p hp)
  exact ⟨sm_of (by omega), sm_of (by omega)⟩
theorem near_nr {P : List Pt} (h : Near P) : P.all nr = true := List.all_eq_true.mpr fun p hp => by
  have := h p hp
  exact nr_iff.mpr ⟨by omega, by omega, by omega, by omega⟩
theorem steps_sm {P : List Pt} (h : P.all nr = true) : ∀ p ∈ stepsP P, p.1.natAbs < 2 ^ 32 ∧ p.2.natAbs < 2 ^ 32 := fun p hp => by
  obtain ⟨q, hq, rfl⟩ := List.mem_map.mp hp
  cases P with
  | nil => cases hq
  | cons p0 r =>
    have a := nr_iff.mp (List.all_eq_true.mp h p0 List.mem_cons_self)
    have b := nr_iff.mp (List.all_eq_true.mp h q (List.mem_cons_of_mem _ hq))
    exact ⟨by simp only [List.headD_cons]; omega, by simp only [List.headD_cons]; omega⟩
theorem steps_sm' {P : List Pt} (h : P.all nr = true) : ∀ p ∈ stepsP P, Sm p.1 ∧ Sm p.2 := fun p hp => ⟨sm_le (steps_sm h p hp).1 (by decide), sm_le (steps_sm h p hp).2 (by decide)⟩
theorem dot_sm {P : List Pt} (h : P.all nr = true) : ∀ p ∈ stepsP P, ∀ q ∈ stepsP P, Sm (dot p q) := fun p hp q hq => by
  obtain ⟨a, b⟩ := steps_sm h p hp
  obtain ⟨c, d⟩ := steps_sm h q hq
  exact sm_le (ab_add (ab_mul a c) (ab_mul b d)) (by decide)
theorem steps_turn (x y : Int) (P : List Pt) : stepsP (turnP x y P) = (stepsP P).map fun p => (x * p.1 - y * p.2, y * p.1 + x * p.2) := by
  cases P with
  | nil => rfl
  | cons p r =>
    simp only [stepsP, turnP, List.map_cons, List.tail_cons, List.headD_cons, List.map_map]
    refine List.map_congr_left fun q _ => ?_
    simp only [Function.comp, Prod.mk.injEq]
    constructor <;> (simp only [Int.mul_sub]; omega)
theorem steps_shift (x y : Int) (P : List Pt) : stepsP (shiftP x y P) = stepsP P := by
  cases P with
  | nil => rfl
  | cons p r =>
    simp only [stepsP, shiftP, List.map_cons, List.tail_cons, List.headD_cons, List.map_map]
    refine List.map_congr_left fun q _ => ?_
    simp only [Function.comp, Prod.mk.injEq]
    constructor <;> omega
theorem steps_times (n : Int) (P : List Pt) : stepsP (timesP n P) = (stepsP P).map fun p => (n * p.1, n * p.2) := by
  cases P with
  | nil => rfl
  | cons p r =>
    simp only [stepsP, timesP, List.map_cons, List.tail_cons, List.headD_cons, List.map_map]
    refine List.map_congr_left fun q _ => ?_
    simp only [Function.comp, Prod.mk.injEq]
    constructor <;> (simp only [Int.mul_sub])
theorem steps_mir (P : List Pt) : stepsP (mirP P) = (stepsP P).map fun p => (-p.1, p.2) := by
  cases P with
  | nil => rfl
  | cons p r =>
    simp only [stepsP, mirP, List.map_cons, List.tail_cons, List.headD_cons, List.map_map]
    refine List.map_congr_left fun q _ => ?_
    simp only [Function.comp, Prod.mk.injEq]
    constructor <;> first | omega | trivial
theorem dot_turn (x y : Int) (p q : Pt) : dot (x * p.1 - y * p.2, y * p.1 + x * p.2) (x * q.1 - y * q.2, y * q.1 + x * q.2) = (x * x + y * y) * dot p q := by
  simp only [dot]
  grind
theorem dot_times (n : Int) (p q : Pt) : dot (n * p.1, n * p.2) (n * q.1, n * q.2) = (n * n) * dot p q := by
  simp only [dot]
  grind
theorem dot_mir (p q : Pt) : dot (-p.1, p.2) (-q.1, q.2) = 1 * dot p q := by
  simp only [dot]
  grind
theorem turn_turn (x y u v : Int) (P : List Pt) : turnP u v (turnP x y P) = turnP (x * u - y * v) (x * v + y * u) P := by
  simp only [turnP, List.map_map]
  refine List.map_congr_left fun p _ => ?_
  simp only [Function.comp, Prod.mk.injEq]
  constructor <;> grind
theorem mir_turn (x y : Int) (P : List Pt) : mirP (turnP x (-y) P) = turnP x y (mirP P) := by
  simp only [turnP, mirP, List.map_map]
  refine List.map_congr_left fun p _ => ?_
  simp only [Function.comp, Prod.mk.injEq]
  constructor <;> grind
theorem nr_mir (P : List Pt) : (mirP P).all nr = P.all nr := by
  unfold mirP
  rw [List.all_map]
  congr 1
  funext p
  have : ∀ a b : Bool, (a = true ↔ b = true) → a = b := fun a b h => by cases a <;> cases b <;> simp_all
  refine this _ _ ?_
  simp only [Function.comp]
  rw [nr_iff, nr_iff]
  constructor <;> (intro h; simp only at h ⊢; omega)
theorem turn_q (P : List Pt) : turnP 0 1 P = P.map fun p => (-p.2, p.1) := List.map_congr_left fun p _ => by simp
theorem turn_4 (P : List Pt) : turnP 0 1 (turnP 0 1 (turnP 0 1 (turnP 0 1 P))) = P := by
  simp only [turn_q, List.map_map]
  have : ∀ p : Pt, ((fun p : Pt => (-p.2, p.1)) ∘ (fun p : Pt => (-p.2, p.1)) ∘ (fun p : Pt => (-p.2, p.1)) ∘ fun p : Pt => (-p.2, p.1)) p = p := fun p => by simp [Function.comp]
  conv => rhs; rw [← List.map_id P]
  exact List.map_congr_left fun p _ => by simp [Function.comp]
theorem nr_q {P : List Pt} (h : P.all nr = true) : (turnP 0 1 P).all nr = true := by
  rw [turn_q, List.all_map]
  refine List.all_eq_true.mpr fun p hp => ?_
  have := nr_iff.mp (List.all_eq_true.mp h p hp)
  simp only [Function.comp]
  exact nr_iff.mpr ⟨by simp only; omega, by simp only; omega, by simp only; omega, by simp only; omega⟩
end K12

namespace K12
open PySem PySem.Spec PyProof.Rows L2 Mi
theorem par_hs {i j : Nat} {ma mb : M Mi.S} {τ τ1 τ2 : List Mi.S} {Q : List Pt} {d : D} (h1 : ma τ = .ok (hsS Q, τ1)) (h2 : mb τ1 = .ok (.val d, τ2)) : sPar i j (lCons ma (lCons mb lNil)) τ = .ok (.nx, (τ2.set i (hsS Q)).set j (.val d)) := by
  simp only [par_ap, bnd_ap, lm_2 h1 h2, hs_give, give_val]
theorem ne_hs {i j : Nat} {τ : List Mi.S} {Q : List Pt} (h : τ[i]? = some (hsS Q)) (h2 : τ[j]? = some (.val (dueD Q))) : eOp fNe (eVar i) (eVar j) τ = .ok (.val (.bl false), τ) := by
  by_cases hq : Q.all nr = true
  · rw [hs_t hq] at h
    have : dueD Q = (O.lst (Q.map pT)).frz := if_pos hq
    rw [this] at h2
    exact ne_ff (var_o h) (var_v h2) (pk_a h) pk_v (pl_lst Q) (by decide)
  · have hq' : Q.all nr = false := by simpa using hq
    rw [hs_f hq'] at h
    have : dueD Q = tooM := if_neg hq
    have p := pl_due Q
    rw [this] at h2 p
    exact ne_ff (var_v h) (var_v h2) pk_v pk_v p (by decide)
theorem ne_lam {ma mb : M Mi.S} {τ τ1 τ2 : List Mi.S} {Q : List Pt} (h1 : ma τ = .ok (hsS Q, τ1)) (h2 : mb τ1 = .ok (.val (dueD Q), τ2)) : eOp fNe ma mb τ = .ok (.val (.bl false), τ2) := ne_ff h1 h2 (hs_pk Q _) pk_v (pl_due Q) (by decide)
theorem res_ok {Q : List Pt} {τ : List Mi.S} (h : Q.all nr = true) : resT Q τ = .ok (.own (pO Q), τ) := if_pos h
abbrev TT (o : O) (P : List Pt) (x y u v : Int) (s2 s7 s8 s9 s10 : Mi.S) : List Mi.S := [.lent 0 o, .val (.lst (P.map pT)), s2, .val (.int x), .val (.int y), .val (.int u), .val (.int v), s7, s8, s9, s10, .non]
theorem turned_right_v {o : O} {n : Nat} {P : List Pt} (h : VS o n) (hn : n < 800000) (hP : Ok P) (hN : Near P) : ∃ o', f__law_turned_right [.lent 0 o, .val (.lst (P.map pT))] = .ok (.val (.bl true), [.lent 0 o', .non]) ∧ VS o' (n + 20) := by
  obtain ⟨⟨x, y⟩, o1, e1, hx, hy, v1⟩ := two_v h (by omega)
  obtain ⟨⟨u, v⟩, o2, e2, hu, hv, v2⟩ := two_v v1 (by omega)
  simp only at hx hy hu hv e1 e2
  refine ⟨o2, ?_, v2⟩
  have nP := near_nr hN
  have sP := sm_near hN
  have sx : Sm x := sm_of (by omega)
  have sy : Sm y := sm_of (by omega)
  have su : Sm u := sm_of (by omega)
  have sv : Sm v := sm_of (by omega)
  have s0 : Sm 0 := sm_of (by decide)
  have s1 : Sm 1 := sm_of (by decide)
  have sny : Sm (-y) := sm_of (by omega)
  have oQ : ∀ a b, Ok (turnP a b P) := fun a b => hP.map _
  have oM : Ok (mirP P) := hP.map _
  have sM : SmP (mirP P) := sm_nr (by rw [nr_mir]; exact nP)
  have b1 : (x * u).natAbs < 2 ^ 20 := ab_mul (p := 10) (q := 10) (by omega) (by omega)
  have b2 : (y * v).natAbs < 2 ^ 20 := ab_mul (p := 10) (q := 10) (by omega) (by omega)
  have b3 : (x * v).natAbs < 2 ^ 20 := ab_mul (p := 10) (q := 10) (by omega) (by omega)
  have b4 : (y * u).natAbs < 2 ^ 20 := ab_mul (p := 10) (q := 10) (by omega) (by omega)
  have b5 : (x * x).natAbs < 2 ^ 20 := ab_mul (p := 10) (q := 10) (by omega) (by omega)
  have b6 : (y * y).natAbs < 2 ^ 20 := ab_mul (p := 10) (q := 10) (by omega) (by omega)
  have sxu : Sm (x * u - y * v) := sm_of (by omega)
  have sxv : Sm (x * v + y * u) := sm_of (by omega)
  have sxx : Sm (x * x + y * y) := sm_of (by omega)
  have nq := nr_q nP
  obtain ⟨Q, hQ⟩ : ∃ Q, Q = turnP x y P := ⟨_, rfl⟩
  have oQ' : Ok Q := by rw [hQ]; exact oQ x y
  -- the part that is only for a picture not too far
  have big : ∃ s7 s9 : Mi.S, (sIf (bVal (eCB (fIsi isT) (lCons (eVar 7) (lCons (eLit (.ty "list")) (lNil))))) (sSeq (sAsg 9 (eMethD "turned" [0, 1] 2 [.int 0, .int 1] mtd_turned_2 (eVar 2) (lCons (eVar 3) (lCons (eVar 4) (lNil))))) (sSeq (sIf (bOr (bNot (bVal (eCallV f__law_are_times (lCons (eVar 9) (lCons (eVar 1) (lCons (eOp fAdd (eOp fMul (eVar 3) (eVar 3)) (eOp fMul (eVar 4) (eVar 4))) (lNil))))))) (bVal (eOp fNe (eLam [5, 6, 9] (eMethD "turned" [0, 1] 2 [.int 0, .int 1] mtd_turned_2 (eVar 9) (lCons (eVar 5) (lCons (eVar 6) (lNil)))) g__law_heard) (eCallV f__law_due (lCons (eCallV f__law_at (lCons (eVar 7) (lCons (eVar 5) (lCons (eVar 6) (lNil))))) (lNil)))))) (sRet (eLit (.bl false))) (sNil)) (sIf (bVal (eOp fNe (eLam [2, 3, 4, 5, 6] (eMethD "turned" [0, 1] 2 [.int 0, .int 1] mtd_turned_2 (eVar 2) (lCons (eOp fSub (eOp fMul (eVar 3) (eVar 5)) (eOp fMul (eVar 4) (eVar 6))) (lCons (eOp fAdd (eOp fMul (eVar 3) (eVar 6)) (eOp fMul (eVar 4) (eVar 5))) (lNil)))) g__law_heard) (eCallV f__law_due (lCons (eCallV f__law_at (lCons (eVar 7) (lCons (eVar 5) (lCons (eVar 6) (lNil))))) (lNil))))) (sRet (eLit (.bl false))) (sNil)))) (sNil)) (TT o2 P x y u v (.val (pic P)) (hsS Q) (.val (dueD Q)) .non .non) = .ok (.nx, TT o2 P x y u v (.val (pic P)) s7 (.val (dueD Q)) s9 .non) := by
    by_cases hq : Q.all nr = true
    · refine ⟨.val (.lst (Q.map pT)), .val (pic Q), ?_⟩
      have sQ := sm_nr hq
      have tt : turnP u v Q = turnP (x * u - y * v) (x * v + y * u) P := by rw [hQ]; exact turn_turn x y u v P
      have at_ := are_times_ok hP oQ' (steps_sm' nP) (steps_sm' hq) (x * x + y * y) sxx (dot_sm nP) _ (by rw [hQ]; exact steps_turn x y P) (fun p _ q _ => dot_turn x y p q)
      rw [hs_t hq]
      refine (if_t (bv (cb_2 (s1 := .ali 7) (d1 := .lst (Q.map pT)) (var_o rfl) lit_v (pk_a (o := .lst (Q.map pT)) rfl) pk_v rfl))).trans ?_
      refine at_seq (asg_o (o := pO Q) ((mD_turned rfl (var_v rfl) rfl (lm_2 (var_v rfl) (var_v rfl)) rfl rfl rfl hP sP sx sy).trans (by rw [← hQ]; exact res_ok hq))) ?_
      have m1 := mul_ok sx sx
      have m2 := mul_ok sy sy
      have ex : eOp fAdd (eOp fMul (eVar 3) (eVar 3)) (eOp fMul (eVar 4) (eVar 4)) (TT o2 P x y u v (.val (pic P)) (.own (.lst (Q.map pT))) (.val (dueD Q)) (.own (pO Q)) .non) = .ok (.val (.int (x * x + y * y)), TT o2 P x y u v (.val (pic P)) (.own (.lst (Q.map pT))) (.val (dueD Q)) (.own (pO Q)) .non) := by simp only [TT, m1, m2, bnd_ap, of_ap, seq_ap, asg_ap, ret_ap, retN_ap, sif_ap, expr_ap, par_ap, par3_ap, asgT_ap, nil_ap, brk_ap, cnt_ap, give_val, give_own, give_ali, take_val, take_own, take_ali, ta_nil, ta_cons, pk_val, pk_own, pk_ali, pa_nil', pa_cons', var_ap, lit_ap, op_ap, un_ap, cb_ap, lc_ap, ln_ap, tup_ap, lst_ap, cv_ap, ck_ap, cl_ap, and_ap, or_ap, not_ap, eif_ap, bval_ap, bnot_ap, band_ap, bor_ap, gnam_ap, gtup_ap, gend_ap, gcons_ap, rng_ap, for_ap, loop_nil, setIx_ap, run_ap, M.ret, unpk, asB, back, retS, fit_of, sInt, sBl, fIx, fLen, fAbs, fInt, fList, Mi.isNon, fIsN, fNotN, fCmp, fLt, fLe, fGt, fGe, fAdd, fSub, fNeg, O.frz, Mi.pick, List.getElem?_cons_zero, List.getElem?_cons_succ, List.getElem?_nil, List.set_cons_zero, List.set_cons_succ, List.map_cons, List.map_nil, List.length_cons, List.length_nil, List.replicate_succ, List.replicate_zero, List.cons_append, List.nil_append, Option.map_some, Option.map_none, if_true, if_false, Bool.false_eq_true, Bool.not_true, Bool.not_false, decide_true, decide_false, reduceIte, ne_eq, not_true_eq_false, not_false_eq_true, List.getD_cons_zero, List.getD_cons_succ, Nat.reduceAdd, Nat.reduceSub, Nat.reduceLeDiff, Nat.reduceEqDiff, atI_0, atI_1, atI_2, lam_ap, append_ap, make_ap, setF_ap, own_ap, meth_ap, methD_ap, norm_val, norm_own, norm_ali, onMethD_ap, onMeth_val, onMeth_ali, lz_ap, raise_ap, try_ap, thunk_raw, thunk_exc, byes_ap, Mi.insAt, lendTo, hand, eChain, Mi.isL, onL, okFl]
      refine at_seq (τ1 := TT o2 P x y u v (.val (pic P)) (.val (.lst (Q.map pT))) (.val (dueD Q)) (.val (pic Q)) .non) (if_skip (or_ff (τ1 := TT o2 P x y u v (.val (pic P)) (.own (.lst (Q.map pT))) (.val (dueD Q)) (.val (pic Q)) .non)
        (nt (bv (call_3 (s1 := .ali 9) (s2 := .val (.lst (P.map pT))) (s3 := .val (.int (x * x + y * y))) (var_o rfl) (var_v rfl) ex (tk_a (o := pO Q) rfl) tk_v tk_v at_)))
        (bv (ne_lam (τ1 := TT o2 P x y u v (.val (pic P)) (.own (.lst (Q.map pT))) (.val (dueD Q)) (.val (pic Q)) .non) (lam_res (Q := turnP u v Q) rfl (oQ'.map _) (mD_turned rfl (var_v rfl) rfl (lm_2 (var_v rfl) (var_v rfl)) rfl rfl rfl oQ' sQ su sv)) (dueat (s1 := .ali 7) (var_o rfl) (var_v rfl) (var_v rfl) (tk_a (o := .lst (Q.map pT)) rfl) oQ' sQ su sv))))) ?_
      have m3 := mul_ok sx su
      have m4 := mul_ok sy sv
      have m5 := mul_ok sx sv
      have m6 := mul_ok sy su
      refine if_skip (bv (ne_lam (τ1 := TT o2 P x y u v (.val (pic P)) (.val (.lst (Q.map pT))) (.val (dueD Q)) (.val (pic Q)) .non) (lam_res (Q := turnP u v Q) rfl (oQ'.map _) ((mD_turned rfl (var_v rfl) rfl (lm_2 (s1 := .val (.int (x * u - y * v))) (s2 := .val (.int (x * v + y * u))) (by simp only [only, List.map_cons, List.map_nil, m3, m4, bnd_ap, of_ap, seq_ap, asg_ap, ret_ap, retN_ap, sif_ap, expr_ap, par_ap, par3_ap, asgT_ap, nil_ap, brk_ap, cnt_ap, give_val, give_own, give_ali, take_val, take_own, take_ali, ta_nil, ta_cons, pk_val, pk_own, pk_ali, pa_nil', pa_cons', var_ap, lit_ap, op_ap, un_ap, cb_ap, lc_ap, ln_ap, tup_ap, lst_ap, cv_ap, ck_ap, cl_ap, and_ap, or_ap, not_ap, eif_ap, bval_ap, bnot_ap, band_ap, bor_ap, gnam_ap, gtup_ap, gend_ap, gcons_ap, rng_ap, for_ap, loop_nil, setIx_ap, run_ap, M.ret, unpk, asB, back, retS, fit_of, sInt, sBl, fIx, fLen, fAbs, fInt, fList, Mi.isNon, fIsN, fNotN, fCmp, fLt, fLe, fGt, fGe, fAdd, fSub, fNeg, O.frz, Mi.pick, List.getElem?_cons_zero, List.getElem?_cons_succ, List.getElem?_nil, List.set_cons_zero, List.set_cons_succ, List.map_cons, List.map_nil, List.length_cons, List.length_nil, List.replicate_succ, List.replicate_zero, List.cons_append, List.nil_append, Option.map_some, Option.map_none, if_true, if_false, Bool.false_eq_true, Bool.not_true, Bool.not_false, decide_true, decide_false, reduceIte, ne_eq, not_true_eq_false, not_false_eq_true, List.getD_cons_zero, List.getD_cons_succ, Nat.reduceAdd, Nat.reduceSub, Nat.reduceLeDiff, Nat.reduceEqDiff, atI_0, atI_1, atI_2, lam_ap, append_ap, make_ap, setF_ap, own_ap, meth_ap, methD_ap, norm_val, norm_own, norm_ali, onMethD_ap, onMeth_val, onMeth_ali, lz_ap, raise_ap, try_ap, thunk_raw, thunk_exc, byes_ap, Mi.insAt, lendTo, hand, eChain, Mi.isL, onL, okFl]; rfl) (by simp only [only, List.map_cons, List.map_nil, m5, m6, bnd_ap, of_ap, seq_ap, asg_ap, ret_ap, retN_ap, sif_ap, expr_ap, par_ap, par3_ap, asgT_ap, nil_ap, brk_ap, cnt_ap, give_val, give_own, give_ali, take_val, take_own, take_ali, ta_nil, ta_cons, pk_val, pk_own, pk_ali, pa_nil', pa_cons', var_ap, lit_ap, op_ap, un_ap, cb_ap, lc_ap, ln_ap, tup_ap, lst_ap, cv_ap, ck_ap, cl_ap, and_ap, or_ap, not_ap, eif_ap, bval_ap, bnot_ap, band_ap, bor_ap, gnam_ap, gtup_ap, gend_ap, gcons_ap, rng_ap, for_ap, loop_nil, setIx_ap, run_ap, M.ret, unpk, asB, back, retS, fit_of, sInt, sBl, fIx, fLen, fAbs, fInt, fList, Mi.isNon, fIsN, fNotN, fCmp, fLt, fLe, fGt, fGe, fAdd, fSub, fNeg, O.frz, Mi.pick, List.getElem?_cons_zero, List.getElem?_cons_succ, List.getElem?_nil, List.set_cons_zero, List.set_cons_succ, List.map_cons, List.map_nil, List.length_cons, List.length_nil, List.replicate_succ, List.replicate_zero, List.cons_append, List.nil_append, Option.map_some, Option.map_none, if_true, if_false, Bool.false_eq_true, Bool.not_true, Bool.not_false, decide_true, decide_false, reduceIte, ne_eq, not_true_eq_false, not_false_eq_true, List.getD_cons_zero, List.getD_cons_succ, Nat.reduceAdd, Nat.reduceSub, Nat.reduceLeDiff, Nat.reduceEqDiff, atI_0, atI_1, atI_2, lam_ap, append_ap, make_ap, setF_ap, own_ap, meth_ap, methD_ap, norm_val, norm_own, norm_ali, onMethD_ap, onMeth_val, onMeth_ali, lz_ap, raise_ap, try_ap, thunk_raw, thunk_exc, byes_ap, Mi.insAt, lendTo, hand, eChain, Mi.isL, onL, okFl]; rfl)) rfl rfl rfl hP sP sxu sxv).trans (by rw [tt]))) (dueat (var_v rfl) (var_v rfl) (var_v rfl) tk_v oQ' sQ su sv)))
    · have hq' : Q.all nr = false := by simpa using hq
      refine ⟨.val tooM, .non, ?_⟩
      rw [hs_f hq']
      exact if_skip (bv (cb_2 (d1 := tooM) (var_v rfl) lit_v pk_v pk_v rfl))
  obtain ⟨s7, s9, eb⟩ := big
  refine run_1 (τ := TT o2 P x y u v (.val (pic P)) s7 (.val (dueD Q)) s9 (.val (dueD (turnP x y (mirP P))))) rfl ?_ rfl rfl
  refine at_seq (asg_o (mk_ok P hP nP (lm_1 (var_v rfl)) tk_v)) ?_
  refine at_seq (asgT_2 (call_l e1)) ?_
  refine at_seq (asgT_2 (call_l e2)) ?_
  refine at_seq (τ1 := TT o2 P x y u v (.val (pic P)) (hsS Q) (.val (dueD Q)) .non .non) (by
    have := par_hs (i := 7) (j := 8) (lam_res (cap := [2, 3, 4]) (Q := turnP x y P) (τ := TT o2 P x y u v (.own (pO P)) .non .non .non .non) (τ1 := TT o2 P x y u v (.val (pic P)) .non .non .non .non) rfl (oQ x y) (mD_turned (tab := mtd_turned_2) (ix := [0, 1]) (nn := 2) (mo := eVar 2) (ms := lCons (eVar 3) (lCons (eVar 4) lNil)) rfl (var_v rfl) rfl (lm_2 (var_v rfl) (var_v rfl)) rfl rfl rfl hP sP sx sy)) (dueat (m1 := eVar 1) (m2 := eVar 3) (m3 := eVar 4) (var_v rfl) (var_v rfl) (var_v rfl) tk_v hP sP sx sy)
    rw [← hQ] at this
    exact this) ?_
  refine at_seq (if_skip (or_ff (bv (ne_hs rfl rfl)) (bv (ne_lam (Q := Q) (τ1 := TT o2 P x y u v (.val (pic P)) (hsS Q) (.val (dueD Q)) .non .non) (lam_res (by rfl) oQ' ((mD_turned rfl (var_v rfl) rfl (lm_2 (var_v rfl) (var_v rfl)) rfl rfl rfl hP sP sx sy).trans (by rw [← hQ]))) (var_v rfl))))) ?_
  refine at_seq (if_skip (bv (ne_lam (Q := turnP x 1 P) (τ1 := TT o2 P x y u v (.val (pic P)) (hsS Q) (.val (dueD Q)) .non .non) (lam_res (by rfl) (oQ x 1) (mD_turned rfl (var_v rfl) rfl (lm_1 (var_v rfl)) rfl rfl rfl hP sP sx s1)) (dueat (var_v rfl) (var_v rfl) lit_v tk_v hP sP sx s1)))) ?_
  refine at_seq (if_skip (or_ff (bv (ne_lam (Q := turnP 0 v P) (τ1 := TT o2 P x y u v (.val (pic P)) (hsS Q) (.val (dueD Q)) .non .non) (lam_res (by rfl) (oQ 0 v) (mD_turned rfl (var_v rfl) rfl (lm_1 (var_v rfl)) rfl rfl rfl hP sP s0 sv)) (dueat (var_v rfl) lit_v (var_v rfl) tk_v hP sP s0 sv)))
    (bv (own_eq (neg := true) (τ1 := TT o2 P x y u v (.val (pic P)) (hsS Q) (.val (dueD Q)) .non .non) (τ2 := TT o2 P x y u v (.val (pic P)) (hsS Q) (.val (dueD Q)) .non .non) (turnP 0 1 P) ((mD_turned (tab := mtd_turned_0) (ix := [0, 1]) (nn := 0) (mo := eVar 2) (ms := lNil) (ss := []) (ds := []) (x := 0) (y := 1) rfl (var_v rfl) rfl rfl rfl rfl rfl hP sP s0 s1).trans (res_ok nq)) (mk_ok (turnP 0 1 P) (oQ 0 1) nq (lm_1 (call_3 (var_v rfl) lit_v lit_v tk_v tk_v tk_v (law_at_ok hP sP s0 s1))) (tk_o (o := .lst ((turnP 0 1 P).map pT)))) (tk_o (o := pO (turnP 0 1 P))) (tk_o (o := pO (turnP 0 1 P)))))))  ?_
  refine at_seq eb ?_
  have cm := ecomp_map (own := [11]) (mi := iSeq (eVar 1)) (g := gNam 11) (me := eTup (lCons (eUn fNeg (eOp fIx (eVar 11) (eLit (.int 0)))) (lCons (eOp fIx (eVar 11) (eLit (.int 1))) lNil))) P pT (fun p => pT (-p.1, p.2)) (τ := TT o2 P x y u v (.val (pic P)) s7 (.val (dueD Q)) s9 .non) (τ1 := TT o2 P x y u v (.val (pic P)) s7 (.val (dueD Q)) s9 .non) (τ0 := TT o2 P x y u v (.val (pic P)) s7 (.val (dueD Q)) s9 .non)
    (iseq_val (.lst (P.map pT)) (var_v rfl) rfl) rfl rfl (fun p hp => ⟨TT o2 P x y u v (.val (pic P)) s7 (.val (dueD Q)) s9 .non |>.set 11 (.val (pT p)), TT o2 P x y u v (.val (pic P)) s7 (.val (dueD Q)) s9 .non |>.set 11 (.val (pT p)), rfl, by simp only [TT, pT, bnd_ap, of_ap, seq_ap, asg_ap, ret_ap, retN_ap, sif_ap, expr_ap, par_ap, par3_ap, asgT_ap, nil_ap, brk_ap, cnt_ap, give_val, give_own, give_ali, take_val, take_own, take_ali, ta_nil, ta_cons, pk_val, pk_own, pk_ali, pa_nil', pa_cons', var_ap, lit_ap, op_ap, un_ap, cb_ap, lc_ap, ln_ap, tup_ap, lst_ap, cv_ap, ck_ap, cl_ap, and_ap, or_ap, not_ap, eif_ap, bval_ap, bnot_ap, band_ap, bor_ap, gnam_ap, gtup_ap, gend_ap, gcons_ap, rng_ap, for_ap, loop_nil, setIx_ap, run_ap, M.ret, unpk, asB, back, retS, fit_of, sInt, sBl, fIx, fLen, fAbs, fInt, fList, Mi.isNon, fIsN, fNotN, fCmp, fLt, fLe, fGt, fGe, fAdd, fSub, fNeg, O.frz, Mi.pick, List.getElem?_cons_zero, List.getElem?_cons_succ, List.getElem?_nil, List.set_cons_zero, List.set_cons_succ, List.map_cons, List.map_nil, List.length_cons, List.length_nil, List.replicate_succ, List.replicate_zero, List.cons_append, List.nil_append, Option.map_some, Option.map_none, if_true, if_false, Bool.false_eq_true, Bool.not_true, Bool.not_false, decide_true, decide_false, reduceIte, ne_eq, not_true_eq_false, not_false_eq_true, List.getD_cons_zero, List.getD_cons_succ, Nat.reduceAdd, Nat.reduceSub, Nat.reduceLeDiff, Nat.reduceEqDiff, atI_0, atI_1, atI_2, lam_ap, append_ap, make_ap, setF_ap, own_ap, meth_ap, methD_ap, norm_val, norm_own, norm_ali, onMethD_ap, onMeth_val, onMeth_ali, lz_ap, raise_ap, try_ap, thunk_raw, thunk_exc, byes_ap, Mi.insAt, lendTo, hand, eChain, Mi.isL, onL, okFl], rfl⟩) (by have := hP.2; omega) (by cases s7 <;> cases s9 <;> rfl)
  have mp : (P.map fun p => pT (-p.1, p.2)) = (mirP P).map pT := map_pT P fun p => (-p.1, p.2)
  rw [mp] at cm
  have rt : restT [11] (TT o2 P x y u v (.val (pic P)) s7 (.val (dueD Q)) s9 .non) (TT o2 P x y u v (.val (pic P)) s7 (.val (dueD Q)) s9 .non) = TT o2 P x y u v (.val (pic P)) s7 (.val (dueD Q)) s9 .non := rfl
  rw [rt] at cm
  refine at_seq (asg_v (dueat cm (var_v rfl) (var_v rfl) tk_o oM sM sx sy)) ?_
  refine at_seq (if_skip (bv (ne_lam (Q := turnP x y (mirP P)) (lam_res (by rfl) (oM.map _) (mD_turned rfl (m_mirrored (var_v rfl) rfl hP nP) rfl (lm_2 (var_v rfl) (var_v rfl)) rfl rfl rfl oM sM sx sy)) (var_v rfl)))) ?_
  refine at_seq (if_skip (bv (ne_lam (Q := turnP x y (mirP P)) (lam_res (τ' := only (TT o2 P x y u v (.val (pic P)) s7 (.val (dueD Q)) s9 (.val (dueD (turnP x y (mirP P)))))) (by rfl) (oM.map _) (by
    have ne : eUn fNeg (eVar 4) (only (TT o2 P x y u v (.val (pic P)) s7 (.val (dueD Q)) s9 (.val (dueD (turnP x y (mirP P)))))) = .ok (.val (.int (-y)), only (TT o2 P x y u v (.val (pic P)) s7 (.val (dueD Q)) s9 (.val (dueD (turnP x y (mirP P)))))) := un_v (var_v rfl) pk_v rfl
    have e := mD_turned (tab := mtd_turned_2) (ix := [0, 1]) (nn := 2) (mo := eVar 2) (ms := lCons (eVar 3) (lCons (eUn fNeg (eVar 4)) lNil)) (τ := only (TT o2 P x y u v (.val (pic P)) s7 (.val (dueD Q)) s9 (.val (dueD (turnP x y (mirP P)))))) rfl (var_v rfl) rfl (lm_2 (var_v rfl) ne) rfl rfl rfl hP sP sx sny
    have nn : (turnP x (-y) P).all nr = (turnP x y (mirP P)).all nr := by rw [← mir_turn, nr_mir]
    by_cases hq : (turnP x (-y) P).all nr = true
    · rw [res_ok hq] at e
      rw [res_ok (by rw [← nn]; exact hq)]
      exact (m_mirrored e rfl (oQ x (-y)) hq).trans (by rw [mir_turn])
    · have hq2 : ¬ (turnP x y (mirP P)).all nr = true := by rw [← nn]; exact hq
      unfold resT at e ⊢
      rw [if_neg hq] at e
      rw [if_neg hq2]
      exact meth_exc e)) (var_v rfl)))) ?_
  have n1 := nr_q nq
  have n2 := nr_q n1
  have n3 := nr_q n2
  have q1 := fun τ : List Mi.S => (res_ok nq : resT _ τ = _)
  have sq := sm_nr nq
  have sq1 := sm_nr n1
  have sq2 := sm_nr n2
  have o1' := oQ 0 1
  have o2' : Ok (turnP 0 1 (turnP 0 1 P)) := o1'.map _
  have o3' : Ok (turnP 0 1 (turnP 0 1 (turnP 0 1 P))) := o2'.map _
  have ch := mD_turned (tab := mtd_turned_1) (ix := [0, 2]) (nn := 1) (τ := TT o2 P x y u v (.val (pic P)) s7 (.val (dueD Q)) s9 (.val (dueD (turnP x y (mirP P))))) (ms := lCons (eLit (.int 0)) lNil) rfl
    ((mD_turned (tab := mtd_turned_0_y) (ix := [1, 0]) (nn := 1) (ms := lCons (eLit (.int 1)) lNil) rfl ((mD_turned (tab := mtd_turned_2) (ix := [0, 1]) (nn := 2) (ms := lCons (eLit (.int 0)) (lCons (eLit (.int 1)) lNil)) rfl ((mD_turned (tab := mtd_turned_0) (ix := [0, 1]) (nn := 0) (mo := eVar 2) (ms := lNil) (ss := []) (ds := []) (x := 0) (y := 1) rfl (var_v rfl) rfl rfl rfl rfl rfl hP sP s0 s1).trans (res_ok nq)) rfl (lm_2 lit_v lit_v) rfl rfl rfl o1' sq s0 s1).trans (res_ok n1)) rfl (lm_1 lit_v) rfl rfl rfl o2' sq1 s0 s1).trans (res_ok n2)) rfl (lm_1 lit_v) rfl rfl rfl o3' sq2 s0 s1
  rw [turn_4, res_ok nP] at ch
  have c2 := ecomp_map (own := [11]) (mi := iSeq (eUn (fldD "places" is_places es_places) (eVar 2))) (g := gNam 11) (me := eCB fTuple (lCons (eVar 11) lNil)) P pT pT (τ := TT o2 P x y u v (.val (pic P)) s7 (.val (dueD Q)) s9 (.val (dueD (turnP x y (mirP P))))) (τ1 := TT o2 P x y u v (.val (pic P)) s7 (.val (dueD Q)) s9 (.val (dueD (turnP x y (mirP P))))) (τ0 := TT o2 P x y u v (.val (pic P)) s7 (.val (dueD Q)) s9 (.val (dueD (turnP x y (mirP P)))))
    (iseq_val (.tup (P.map pT)) (un_v (var_v rfl) pk_v (fld_pl P)) rfl) rfl rfl (fun p hp => ⟨(TT o2 P x y u v (.val (pic P)) s7 (.val (dueD Q)) s9 (.val (dueD (turnP x y (mirP P))))).set 11 (.val (pT p)), (TT o2 P x y u v (.val (pic P)) s7 (.val (dueD Q)) s9 (.val (dueD (turnP x y (mirP P))))).set 11 (.val (pT p)), rfl, by simp only [TT, pT, fTuple, bnd_ap, of_ap, seq_ap, asg_ap, ret_ap, retN_ap, sif_ap, expr_ap, par_ap, par3_ap, asgT_ap, nil_ap, brk_ap, cnt_ap, give_val, give_own, give_ali, take_val, take_own, take_ali, ta_nil, ta_cons, pk_val, pk_own, pk_ali, pa_nil', pa_cons', var_ap, lit_ap, op_ap, un_ap, cb_ap, lc_ap, ln_ap, tup_ap, lst_ap, cv_ap, ck_ap, cl_ap, and_ap, or_ap, not_ap, eif_ap, bval_ap, bnot_ap, band_ap, bor_ap, gnam_ap, gtup_ap, gend_ap, gcons_ap, rng_ap, for_ap, loop_nil, setIx_ap, run_ap, M.ret, unpk, asB, back, retS, fit_of, sInt, sBl, fIx, fLen, fAbs, fInt, fList, Mi.isNon, fIsN, fNotN, fCmp, fLt, fLe, fGt, fGe, fAdd, fSub, fNeg, O.frz, Mi.pick, List.getElem?_cons_zero, List.getElem?_cons_succ, List.getElem?_nil, List.set_cons_zero, List.set_cons_succ, List.map_cons, List.map_nil, List.length_cons, List.length_nil, List.replicate_succ, List.replicate_zero, List.cons_append, List.nil_append, Option.map_some, Option.map_none, if_true, if_false, Bool.false_eq_true, Bool.not_true, Bool.not_false, decide_true, decide_false, reduceIte, ne_eq, not_true_eq_false, not_false_eq_true, List.getD_cons_zero, List.getD_cons_succ, Nat.reduceAdd, Nat.reduceSub, Nat.reduceLeDiff, Nat.reduceEqDiff, atI_0, atI_1, atI_2, lam_ap, append_ap, make_ap, setF_ap, own_ap, meth_ap, methD_ap, norm_val, norm_own, norm_ali, onMethD_ap, onMeth_val, onMeth_ali, lz_ap, raise_ap, try_ap, thunk_raw, thunk_exc, byes_ap, Mi.insAt, lendTo, hand, eChain, Mi.isL, onL, okFl], rfl⟩) (by have := hP.2; omega) (by cases s7 <;> cases s9 <;> rfl)
  exact ret_v (eand_t (own_eq (neg := false) P ch (var_v rfl) tk_v (tk_o (o := pO P))) (eq_tt c2 (var_v rfl) (pk_o (o := .lst (P.map pT))) pk_v (pl_lst P) (by decide)))
end K12

namespace K12
open PySem PySem.Spec PyProof.Rows L2 Mi
theorem tup_2 {ma mb : M Mi.S} {τ τ1 τ2 τ3 τ4 : List Mi.S} {s1 s2 : Mi.S} {d1 d2 : D} (h1 : ma τ = .ok (s1, τ1)) (h2 : mb τ1 = .ok (s2, τ2)) (t1 : take s1 τ2 = .ok (d1, τ3)) (t2 : take s2 τ3 = .ok (d2, τ4)) : eTup (lCons ma (lCons mb lNil)) τ = .ok (.val (.tup [d1, d2]), τ4) := by
  have f : fitL ([d1, d2] : List D).length = some () := fit_of (by simp)
  simp only [tup_ap, bnd_ap, lm_2 h1 h2, ta_cons, ta_nil, t1, t2, M.ret, of_ap, f]
theorem p30 : fPow (.int 10) (.int 30) = some (.val (.int 1000000000000000000000000000000)) := by
  rw [pow_ok (by decide) (by decide) (by decide)]
  rfl
theorem p40 : fPow (.int 10) (.int 40) = some (.val (.int 10000000000000000000000000000000000000000)) := by
  rw [pow_ok (by decide) (by decide) (by decide)]
  rfl
/-- o.shifted(..), o.times(..) -/
theorem m_shifted {mo : M Mi.S} {ms : M (List Mi.S)} {τ τ0 τ1 τ2 τ3 : List Mi.S} {s : Mi.S} {ss : List Mi.S} {P : List Pt} {x y : Int} (h1 : mo τ = .ok (s, τ0)) (h0 : norm s τ0 = .ok (.val (pic P), τ1)) (h2 : ms τ1 = .ok (ss, τ2)) (h3 : takeAll ss τ2 = .ok ([.int x, .int y], τ3)) (h : Ok P) : eMeth "shifted" mt_shifted_2 mo ms τ = resT (shiftP x y P) τ3 := by
  have e := shifted_ok (s := .val (pic P)) (t := .non) (.inl ⟨rfl, rfl⟩) h x y
  have l := ins_pic P "shifted" (by decide)
  have m : mt_shifted_2 "Picture" = some f_Picture__shifted := rfl
  unfold resT
  unfold res at e
  have ia : Mi.insAt τ1 (.val (pic P)) = some (("Picture" : Str), pf P) := rfl
  by_cases hn : (shiftP x y P).all nr = true
  · rw [if_pos hn] at e ⊢
    simp only [meth_ap, bnd_ap, h1, h0, ia, m, l, h2, onMeth_val, h3, List.map_cons, List.map_nil, e]
  · rw [if_neg hn] at e ⊢
    simp only [meth_ap, bnd_ap, h1, h0, ia, m, l, h2, onMeth_val, h3, List.map_cons, List.map_nil, e]
    rfl
theorem m_shiftedD {ix : List Nat} {nn : Nat} {mo : M Mi.S} {ms : M (List Mi.S)} {τ τ0 τ1 τ2 τ3 : List Mi.S} {s : Mi.S} {ss : List Mi.S} {ds : List D} {P : List Pt} {x y : Int} (h1 : mo τ = .ok (s, τ0)) (h0 : norm s τ0 = .ok (.val (pic P), τ1)) (h2 : ms τ1 = .ok (ss, τ2)) (h3 : takeAll ss τ2 = .ok (ds, τ3)) (h4 : ds.length = nn) (h5 : pick .non ix (ds ++ []) = [.int x, .int y]) (h : Ok P) : eMethD "shifted" ix nn [] mtd_shifted_0_y_x mo ms τ = resT (shiftP x y P) τ3 := by
  have e := shifted_ok (s := .val (pic P)) (t := .non) (.inl ⟨rfl, rfl⟩) h x y
  have l := ins_pic P "shifted" (by decide)
  have m : mtd_shifted_0_y_x "Picture" = some f_Picture__shifted := rfl
  unfold resT
  unfold res at e
  have ia : Mi.insAt τ1 (.val (pic P)) = some (("Picture" : Str), pf P) := rfl
  by_cases hn : (shiftP x y P).all nr = true
  · rw [if_pos hn] at e ⊢
    simp only [methD_ap, bnd_ap, h1, h0, ia, m, l, h2, onMethD_ap, h3, h4, if_true, h5, onMeth_val, List.map_cons, List.map_nil, ta_cons, ta_nil, tk_v, M.ret, e]
  · rw [if_neg hn] at e ⊢
    simp only [methD_ap, bnd_ap, h1, h0, ia, m, l, h2, onMethD_ap, h3, h4, if_true, h5, onMeth_val, List.map_cons, List.map_nil, ta_cons, ta_nil, tk_v, M.ret, e]
    rfl
theorem m_times {mo : M Mi.S} {ms : M (List Mi.S)} {τ τ0 τ1 τ2 τ3 : List Mi.S} {s : Mi.S} {ss : List Mi.S} {P : List Pt} {x : Int} (h1 : mo τ = .ok (s, τ0)) (h0 : norm s τ0 = .ok (.val (pic P), τ1)) (h2 : ms τ1 = .ok (ss, τ2)) (h3 : takeAll ss τ2 = .ok ([.int x], τ3)) (h : Ok P) (hP : SmP P) (hx : Sm x) : eMeth "times" mt_times_1 mo ms τ = resT (timesP x P) τ3 := by
  have e := times_ok (s := .val (pic P)) (t := .non) (.inl ⟨rfl, rfl⟩) h x hP hx
  have l := ins_pic P "times" (by decide)
  have m : mt_times_1 "Picture" = some f_Picture__times := rfl
  unfold resT
  unfold res at e
  have ia : Mi.insAt τ1 (.val (pic P)) = some (("Picture" : Str), pf P) := rfl
  by_cases hn : (timesP x P).all nr = true
  · rw [if_pos hn] at e ⊢
    simp only [meth_ap, bnd_ap, h1, h0, ia, m, l, h2, onMeth_val, h3, List.map_cons, List.map_nil, e]
  · rw [if_neg hn] at e ⊢
    simp only [meth_ap, bnd_ap, h1, h0, ia, m, l, h2, onMeth_val, h3, List.map_cons, List.map_nil, e]
    rfl
theorem m_timesD {ix : List Nat} {nn : Nat} {mo : M Mi.S} {ms : M (List Mi.S)} {τ τ0 τ1 τ2 τ3 : List Mi.S} {s : Mi.S} {ss : List Mi.S} {ds : List D} {P : List Pt} {x : Int} (h1 : mo τ = .ok (s, τ0)) (h0 : norm s τ0 = .ok (.val (pic P), τ1)) (h2 : ms τ1 = .ok (ss, τ2)) (h3 : takeAll ss τ2 = .ok (ds, τ3)) (h4 : ds.length = nn) (h5 : pick .non ix (ds ++ []) = [.int x]) (h : Ok P) (hP : SmP P) (hx : Sm x) : eMethD "times" ix nn [] mtd_times_0_number mo ms τ = resT (timesP x P) τ3 := by
  have e := times_ok (s := .val (pic P)) (t := .non) (.inl ⟨rfl, rfl⟩) h x hP hx
  have l := ins_pic P "times" (by decide)
  have m : mtd_times_0_number "Picture" = some f_Picture__times := rfl
  unfold resT
  unfold res at e
  have ia : Mi.insAt τ1 (.val (pic P)) = some (("Picture" : Str), pf P) := rfl
  by_cases hn : (timesP x P).all nr = true
  · rw [if_pos hn] at e ⊢
    simp only [methD_ap, bnd_ap, h1, h0, ia, m, l, h2, onMethD_ap, h3, h4, if_true, h5, onMeth_val, List.map_cons, List.map_nil, ta_cons, ta_nil, tk_v, M.ret, e]
  · rw [if_neg hn] at e ⊢
    simp only [methD_ap, bnd_ap, h1, h0, ia, m, l, h2, onMethD_ap, h3, h4, if_true, h5, onMeth_val, List.map_cons, List.map_nil, ta_cons, ta_nil, tk_v, M.ret, e]
    rfl
theorem shift_back (x y : Int) (P : List Pt) : shiftP (-x) (-y) (shiftP x y P) = P := by
  simp only [shiftP, List.map_map]
  conv => rhs; rw [← List.map_id P]
  refine List.map_congr_left fun p _ => ?_
  have a : p.1 + x + -x = p.1 := by omega
  have b : p.2 + y + -y = p.2 := by omega
  simp only [Function.comp, a, b, id]
theorem mir_mir (P : List Pt) : mirP (mirP P) = P := by
  simp only [mirP, List.map_map]
  conv => rhs; rw [← List.map_id P]
  exact List.map_congr_left fun p _ => by simp [Function.comp]
theorem turn_n0 (n : Int) (P : List Pt) : turnP n 0 P = timesP n P := List.map_congr_left fun p _ => by simp
abbrev UU (o : O) (P : List Pt) (f x y k : Int) (s8 s10 s11 s12 : Mi.S) : List Mi.S := [.lent 0 o, .val (.lst (P.map pT)), .val (pic P), .val (.int f), .val (.int x), .val (.int y), .non, .val (.int k), s8, .non, s10, s11, s12]
theorem draws_v {o : O} {n : Nat} {P : List Pt} (h : VS o n) (hn : n < 800000) (hP : Ok P) (hN : Near P) : ∃ (o' : O) (x y k : Int), x.natAbs < 2 ^ 101 ∧ y.natAbs < 2 ^ 101 ∧ k.natAbs < 2 ^ 134 ∧ VS o' (n + 20) ∧
    (sAsgT (gTupM 2 (gsCons (gNam 4) (gsCons (gNam 5) (gsEnd)))) (eComp [6] (iRng ranged1 (lCons (eLit (.int 2)) (lNil))) (gNam 6) (bYes) (eCallL f__law_pick (lCons (eVar 0) (lCons (eLst (lCons (eLit (.int 0)) (lCons (eLit (.int 1)) (lCons (eUn fNeg (eLit (.int 1))) (lCons (eOp fSub (eOp fPow (eLit (.int 10)) (eLit (.int 9))) (eVar 3)) (lCons (eOp fAdd (eOp fSub (eOp fPow (eLit (.int 10)) (eLit (.int 9))) (eVar 3)) (eLit (.int 1))) (lCons (eOp fSub (eVar 3) (eOp fPow (eLit (.int 10)) (eLit (.int 9)))) (lCons (eOp fPow (eLit (.int 10)) (eLit (.int 30))) (lCons (eCallL f__law_shot (lCons (eVar 0) (lCons (eLit (.int 99)) (lNil)))) (lNil)))))))))) (lNil)))))) [.lent 0 o, .val (.lst (P.map pT)), .val (pic P), .val (.int (farM P)), .non, .non, .non, .non, .non, .non, .non, .non, .non] = .ok (.nx, [.lent 0 o', .val (.lst (P.map pT)), .val (pic P), .val (.int (farM P)), .val (.int x), .val (.int y), .non, .non, .non, .non, .non, .non, .non]) ∧
    ∃ o'', VS o'' (n + 20) ∧ (sAsg 7 (eCallL f__law_pick (lCons (eVar 0) (lCons (eLst (lCons (eLit (.int 0)) (lCons (eLit (.int 1)) (lCons (eUn fNeg (eLit (.int 1))) (lCons (eLit (.int 2)) (lCons (eUn fNeg (eLit (.int 3))) (lCons (eCB fInt (lCons (eOp fDiv (eOp fPow (eLit (.int 10)) (eLit (.int 9))) (eCB fMax2 (lCons (eLit (.int 1)) (lCons (eVar 3) (lNil))))) (lNil))) (lCons (eOp fAdd (eCB fInt (lCons (eOp fDiv (eOp fPow (eLit (.int 10)) (eLit (.int 9))) (eCB fMax2 (lCons (eLit (.int 1)) (lCons (eVar 3) (lNil))))) (lNil))) (eLit (.int 1))) (lCons (eUn fNeg (eOp fPow (eLit (.int 10)) (eLit (.int 40)))) (lNil)))))))))) (lNil))))) [.lent 0 o', .val (.lst (P.map pT)), .val (pic P), .val (.int (farM P)), .val (.int x), .val (.int y), .non, .non, .non, .non, .non, .non, .non] = .ok (.nx, UU o'' P (farM P) x y k .non .non .non .non) := by
  have f0 := far_nonneg (P := P)
  have f1 : farM P ≤ 1000000 := far_of hN (by decide)
  obtain ⟨F, hF⟩ : ∃ F, F = farM P := ⟨_, rfl⟩
  rw [← hF] at f0 f1 ⊢
  clear hF
  have up : ∀ {o : O} {a b : Nat}, VS o a → a ≤ b → VS o b := fun {o a b} h l => by
    obtain ⟨c, s, t, q1, q2, q3, q4⟩ := h
    exact ⟨c, s, t, q1, q2, by omega, q4⟩
  obtain ⟨ys, o1, e1, l1, g1, v1⟩ := draw_comp (own := [6]) (mi := iRng ranged1 (lCons (eLit (.int 2)) lNil)) (g := gNam 6) (me := eCallL f__law_pick (lCons (eVar 0) (lCons (eLst (lCons (eLit (.int 0)) (lCons (eLit (.int 1)) (lCons (eUn fNeg (eLit (.int 1))) (lCons (eOp fSub (eOp fPow (eLit (.int 10)) (eLit (.int 9))) (eVar 3)) (lCons (eOp fAdd (eOp fSub (eOp fPow (eLit (.int 10)) (eLit (.int 9))) (eVar 3)) (eLit (.int 1))) (lCons (eOp fSub (eVar 3) (eOp fPow (eLit (.int 10)) (eLit (.int 9)))) (lCons (eOp fPow (eLit (.int 10)) (eLit (.int 30))) (lCons (eCallL f__law_shot (lCons (eVar 0) (lCons (eLit (.int 99)) (lNil)))) (lNil)))))))))) (lNil)))) (its := [.int 0, .int 1])
    (τ := [.lent 0 o, .val (.lst (P.map pT)), .val (pic P), .val (.int F), .non, .non, .non, .non, .non, .non, .non, .non, .non]) (τ1 := [.lent 0 o, .val (.lst (P.map pT)), .val (pic P), .val (.int F), .non, .non, .non, .non, .non, .non, .non, .non, .non]) (rest := [.val (.lst (P.map pT)), .val (pic P), .val (.int F), .non, .non, .non, .non, .non, .non, .non, .non, .non]) VS (fun y => ∃ i : Int, y = .int i ∧ i.natAbs < 2 ^ 101) 2 rfl rfl o n rfl h (fun x hx o m hm ho => by
      obtain ⟨a, o4, e4, a4, b4, v4⟩ := shot_v (many := 99) ho (by simp at hm; omega) (by decide) (by decide)
      obtain ⟨b, o5, e5, m5, v5⟩ := pick_v (xs := [.int 0, .int 1, .int (-1), .int (1000000000 - F), .int (1000000000 - F + 1), .int (F - 1000000000), .int 1000000000000000000000000000000, .int a]) v4 (by simp at hm; omega) (by simp) (by simp)
      refine ⟨b, o5, [.lent 0 o, .val (.lst (P.map pT)), .val (pic P), .val (.int F), .non, .non, .val x, .non, .non, .non, .non, .non, .non], [.lent 0 o5, .val (.lst (P.map pT)), .val (pic P), .val (.int F), .non, .non, .val x, .non, .non, .non, .non, .non, .non], rfl, by simp only [p9, p30, e4, e5, bnd_ap, of_ap, seq_ap, asg_ap, ret_ap, retN_ap, sif_ap, expr_ap, par_ap, par3_ap, asgT_ap, nil_ap, brk_ap, cnt_ap, give_val, give_own, give_ali, take_val, take_own, take_ali, ta_nil, ta_cons, pk_val, pk_own, pk_ali, pa_nil', pa_cons', var_ap, lit_ap, op_ap, un_ap, cb_ap, lc_ap, ln_ap, tup_ap, lst_ap, cv_ap, ck_ap, cl_ap, and_ap, or_ap, not_ap, eif_ap, bval_ap, bnot_ap, band_ap, bor_ap, gnam_ap, gtup_ap, gend_ap, gcons_ap, rng_ap, for_ap, loop_nil, setIx_ap, run_ap, M.ret, unpk, asB, back, retS, fit_of, sInt, sBl, fIx, fLen, fAbs, fInt, fList, Mi.isNon, fIsN, fNotN, fCmp, fLt, fLe, fGt, fGe, fAdd, fSub, fNeg, O.frz, Mi.pick, List.getElem?_cons_zero, List.getElem?_cons_succ, List.getElem?_nil, List.set_cons_zero, List.set_cons_succ, List.map_cons, List.map_nil, List.length_cons, List.length_nil, List.replicate_succ, List.replicate_zero, List.cons_append, List.nil_append, Option.map_some, Option.map_none, if_true, if_false, Bool.false_eq_true, Bool.not_true, Bool.not_false, decide_true, decide_false, reduceIte, ne_eq, not_true_eq_false, not_false_eq_true, List.getD_cons_zero, List.getD_cons_succ, Nat.reduceAdd, Nat.reduceSub, Nat.reduceLeDiff, Nat.reduceEqDiff, atI_0, atI_1, atI_2, lam_ap, append_ap, make_ap, setF_ap, own_ap, meth_ap, methD_ap, norm_val, norm_own, norm_ali, onMethD_ap, onMeth_val, onMeth_ali, lz_ap, raise_ap, try_ap, thunk_raw, thunk_exc, byes_ap, Mi.insAt, lendTo, hand, eChain, Mi.isL, onL, okFl], rfl, ?_, v5⟩
      simp only [List.mem_cons, List.not_mem_nil, or_false] at m5
      rcases m5 with rfl | rfl | rfl | rfl | rfl | rfl | rfl | rfl <;> exact ⟨_, rfl, by omega⟩) (by simp) (fun _ _ => rfl)
  match ys, l1 with
  | [y1, y2], _ =>
    obtain ⟨x, rfl, bx⟩ := g1 y1 (by simp)
    obtain ⟨y, rfl, by_⟩ := g1 y2 (by simp)
    have v1' : VS o1 (n + 4) := v1
    obtain ⟨mx, hmx⟩ : ∃ mx : Int, mx = (if F > 1 then F else 1) := ⟨_, rfl⟩
    have mx0 : 0 < mx := by rw [hmx]; split <;> omega
    have mx1 : mx ≤ 1000000 := by rw [hmx]; split <;> omega
    have em : fMax2 [.int 1, .int F] = some (.val (.int mx)) := by rw [hmx]; rfl
    have dv := div_ok (i := 1000000000) (j := mx) (by omega) (by omega)
    have bd : ((1000000000 : Int).fdiv mx).natAbs ≤ 1000000000 := by
      rw [Int.fdiv_eq_ediv_of_nonneg _ (by omega)]
      have h1 : (0 : Int) ≤ 1000000000 / mx := Int.ediv_nonneg (by decide) (by omega)
      have h2 : (1000000000 : Int) / mx ≤ 1000000000 := Int.ediv_le_self _ (by decide)
      omega
    obtain ⟨z, o2, e2, m2, v2⟩ := pick_v (xs := [.int 0, .int 1, .int (-1), .int 2, .int (-3), .int ((1000000000 : Int).fdiv mx), .int ((1000000000 : Int).fdiv mx + 1), .int (-10000000000000000000000000000000000000000)]) v1' (by omega) (by simp) (by simp)
    have hz : ∃ k : Int, z = .int k ∧ k.natAbs < 2 ^ 134 := by
      simp only [List.mem_cons, List.not_mem_nil, or_false] at m2
      rcases m2 with rfl | rfl | rfl | rfl | rfl | rfl | rfl | rfl <;> exact ⟨_, rfl, by omega⟩
    obtain ⟨k, rfl, bk⟩ := hz
    have rt : restT [6] [.lent 0 o, .val (.lst (P.map pT)), .val (pic P), .val (.int F), .non, .non, .non, .non, .non, .non, .non, .non, .non] (.lent 0 o1 :: [.val (.lst (P.map pT)), .val (pic P), .val (.int F), .non, .non, .non, .non, .non, .non, .non, .non, .non]) = [.lent 0 o1, .val (.lst (P.map pT)), .val (pic P), .val (.int F), .non, .non, .non, .non, .non, .non, .non, .non, .non] := rfl
    rw [rt] at e1
    refine ⟨o1, x, y, k, bx, by_, bk, up v1' (by omega), asgT_2o e1, o2, up v2 (by omega), ?_⟩
    simp only [p9, p40, em, dv, e2, UU, bnd_ap, of_ap, seq_ap, asg_ap, ret_ap, retN_ap, sif_ap, expr_ap, par_ap, par3_ap, asgT_ap, nil_ap, brk_ap, cnt_ap, give_val, give_own, give_ali, take_val, take_own, take_ali, ta_nil, ta_cons, pk_val, pk_own, pk_ali, pa_nil', pa_cons', var_ap, lit_ap, op_ap, un_ap, cb_ap, lc_ap, ln_ap, tup_ap, lst_ap, cv_ap, ck_ap, cl_ap, and_ap, or_ap, not_ap, eif_ap, bval_ap, bnot_ap, band_ap, bor_ap, gnam_ap, gtup_ap, gend_ap, gcons_ap, rng_ap, for_ap, loop_nil, setIx_ap, run_ap, M.ret, unpk, asB, back, retS, fit_of, sInt, sBl, fIx, fLen, fAbs, fInt, fList, Mi.isNon, fIsN, fNotN, fCmp, fLt, fLe, fGt, fGe, fAdd, fSub, fNeg, O.frz, Mi.pick, List.getElem?_cons_zero, List.getElem?_cons_succ, List.getElem?_nil, List.set_cons_zero, List.set_cons_succ, List.map_cons, List.map_nil, List.length_cons, List.length_nil, List.replicate_succ, List.replicate_zero, List.cons_append, List.nil_append, Option.map_some, Option.map_none, if_true, if_false, Bool.false_eq_true, Bool.not_true, Bool.not_false, decide_true, decide_false, reduceIte, ne_eq, not_true_eq_false, not_false_eq_true, List.getD_cons_zero, List.getD_cons_succ, Nat.reduceAdd, Nat.reduceSub, Nat.reduceLeDiff, Nat.reduceEqDiff, atI_0, atI_1, atI_2, lam_ap, append_ap, make_ap, setF_ap, own_ap, meth_ap, methD_ap, norm_val, norm_own, norm_ali, onMethD_ap, onMeth_val, onMeth_ali, lz_ap, raise_ap, try_ap, thunk_raw, thunk_exc, byes_ap, Mi.insAt, lendTo, hand, eChain, Mi.isL, onL, okFl]
end K12

namespace K12
open PySem PySem.Spec PyProof.Rows L2 Mi
theorem cmpU {own : List Nat} {me : M Mi.S} {mi : M (List D × Pin)} {P : List Pt} {f : Pt → Pt} {τ : List Mi.S} (hP : Ok P) (hi : mi τ = .ok ((P.map pT, noPin), τ)) (hp : own.all (fun i => plainS (τ.getD i .non)) = true) (hw : wipeT own τ = τ) {i : Nat} (each : ∀ p ∈ P, M.bnd me take (τ.set i (.val (pT p))) = .ok (pT (f p), τ.set i (.val (pT p)))) (hw2 : ∀ d, wipeT own (τ.set i (.val d)) = τ) (hr : realOk τ τ = true) (rt : restT own τ τ = τ) : eComp own mi (gNam i) bYes me τ = .ok (.own (.lst ((P.map f).map pT)), τ) := by
  have c := ecomp_map (own := own) (mi := mi) (g := gNam i) (me := me) P pT (fun p => pT (f p)) (τ := τ) (τ1 := τ) (τ0 := τ) hi hp hw (fun p hp => ⟨_, _, rfl, each p hp, hw2 _⟩) (by have := hP.2; omega) hr
  rw [rt, map_pT P f] at c
  exact c
theorem changed_right_v {o : O} {n : Nat} {P : List Pt} (h : VS o n) (hn : n < 700000) (hP : Ok P) (hN : Near P) : ∃ o', f__law_changed_right [.lent 0 o, .val (.lst (P.map pT))] = .ok (.val (.bl true), [.lent 0 o', .non]) ∧ VS o' (n + 20) := by
  obtain ⟨o1, x, y, k, bx, by_, bk, v1, d1, o2, v2, d2⟩ := draws_v h (by omega) hP hN
  refine ⟨o2, ?_, v2⟩
  have nP := near_nr hN
  have sP := sm_near hN
  have sk : Sm k := sm_le bk (by decide)
  have s0 : Sm 0 := sm_of (by decide)
  have s1 : Sm 1 := sm_of (by decide)
  have skk : Sm (k * k) := sm_le (ab_mul bk bk) (by decide)
  obtain ⟨F, hF⟩ : ∃ F, F = farM P := ⟨_, rfl⟩
  have fo := farthest_ok hP
  rw [← hF] at d1 d2 fo
  have oA : Ok (shiftP x y P) := hP.map _
  have oB : Ok (timesP k P) := hP.map _
  have oM : Ok (mirP P) := hP.map _
  have nM : (mirP P).all nr = true := by rw [nr_mir]; exact nP
  obtain ⟨A, hA⟩ : ∃ A, A = shiftP x y P := ⟨_, rfl⟩
  obtain ⟨B, hB⟩ : ∃ B, B = timesP k P := ⟨_, rfl⟩
  rw [← hA] at oA
  rw [← hB] at oB
  have stA : stepsP A = (stepsP P).map fun p => p := by rw [hA, steps_shift, List.map_id']
  have tA : ∀ h : A.all nr = true, f__law_are_times [.val (pic A), .val (.lst (P.map pT)), .val (.int 1)] = .ok (.val (.bl true), [.non, .non, .non]) := fun h => are_times_ok hP oA (steps_sm' nP) (steps_sm' h) 1 s1 (dot_sm nP) _ stA (fun p _ q _ => by rw [Int.one_mul])
  have tB : ∀ h : B.all nr = true, f__law_are_times [.val (pic B), .val (.lst (P.map pT)), .val (.int (k * k))] = .ok (.val (.bl true), [.non, .non, .non]) := fun h => are_times_ok hP oB (steps_sm' nP) (steps_sm' h) (k * k) skk (dot_sm nP) _ (by rw [hB]; exact steps_times k P) (fun p _ q _ => dot_times k p q)
  have tM : f__law_are_times [.val (pic (mirP P)), .val (.lst (P.map pT)), .val (.int 1)] = .ok (.val (.bl true), [.non, .non, .non]) := are_times_ok hP oM (steps_sm' nP) (steps_sm' nM) 1 s1 (dot_sm nP) _ (steps_mir P) (fun p _ q _ => dot_mir p q)
  have rwA : xsD A = xsD P ∧ ysD A = ysD P := by
    rw [hA]
    cases P with
    | nil => exact ⟨rfl, rfl⟩
    | cons p r =>
      constructor
      · simp only [xsD, shiftP, List.map_cons, List.tail_cons, List.headD_cons, List.map_map]
        refine congrArg D.tup (List.map_congr_left fun q _ => ?_)
        simp only [Function.comp]
        exact congrArg D.int (by omega)
      · simp only [ysD, shiftP, List.map_cons, List.tail_cons, List.headD_cons, List.map_map]
        refine congrArg D.tup (List.map_congr_left fun q _ => ?_)
        simp only [Function.comp]
        exact congrArg D.int (by omega)
  have plR : PlN 2 (.tup [xsD P, ysD P]) := .tup fun z hz => by
    simp only [List.mem_cons, List.not_mem_nil, or_false] at hz
    rcases hz with rfl | rfl
    · exact .tup fun w hw => by
        obtain ⟨p, _, rfl⟩ := List.mem_map.mp hw
        exact .int _
    · exact .tup fun w hw => by
        obtain ⟨p, _, rfl⟩ := List.mem_map.mp hw
        exact .int _
  -- shifts not too far
  have mid : ∃ s10 : Mi.S, plainS s10 = true ∧ (sIf (bVal (eCB (fIsi isT) (lCons (eCallV f__law_due (lCons (eVar 8) (lNil))) (lCons (eLit (.ty "list")) (lNil))))) (sSeq (sAsg 10 (eMeth "shifted" mt_shifted_2 (eVar 2) (lCons (eVar 4) (lCons (eVar 5) (lNil))))) (sIf (bOr (bVal (eOp fNe (eUn (fldD "rows" is_rows es_rows) (eVar 10)) (eUn (fldD "rows" is_rows es_rows) (eVar 2)))) (bOr (bVal (eOwn true mt_eq (okTs tgs) (eMeth "shifted" mt_shifted_2 (eVar 10) (lCons (eUn fNeg (eVar 4)) (lCons (eUn fNeg (eVar 5)) (lNil)))) (eVar 2))) (bNot (bVal (eCallV f__law_are_times (lCons (eVar 10) (lCons (eVar 1) (lCons (eLit (.int 1)) (lNil))))))))) (sRet (eLit (.bl false))) (sNil))) (sNil)) (UU o2 P F x y k (.val (.lst (A.map pT))) .non .non .non) = .ok (.nx, UU o2 P F x y k (.val (.lst (A.map pT))) s10 .non .non) := by
    by_cases hq : A.all nr = true
    · refine ⟨.val (pic A), rfl, ?_⟩
      have dq : dueD A = .lst (A.map pT) := if_pos hq
      have dd := due_ok oA
      rw [dq] at dd
      refine (if_t (bv (cb_2 (s1 := .val (.lst (A.map pT))) (d1 := .lst (A.map pT)) (call_1 (var_v rfl) tk_v dd) lit_v pk_v pk_v rfl))).trans ?_
      refine at_seq (asg_o (o := pO A) ((m_shifted (var_v rfl) rfl (lm_2 (var_v rfl) (var_v rfl)) rfl hP).trans (by rw [← hA]; exact res_ok hq))) ?_
      have un1 : eUn (fldD "rows" is_rows es_rows) (eVar 10) (UU o2 P F x y k (.val (.lst (A.map pT))) (.own (pO A)) .non .non) = .ok (.val (.tup [xsD P, ysD P]), UU o2 P F x y k (.val (.lst (A.map pT))) (.own (pO A)) .non .non) := un_v (s1 := .ali 10) (d1 := pic A) (var_o rfl) (pk_a (o := pO A) rfl) (by rw [fld_rw, rwA.1, rwA.2])
      have un2 : eUn (fldD "rows" is_rows es_rows) (eVar 2) (UU o2 P F x y k (.val (.lst (A.map pT))) (.own (pO A)) .non .non) = .ok (.val (.tup [xsD P, ysD P]), UU o2 P F x y k (.val (.lst (A.map pT))) (.own (pO A)) .non .non) := un_v (var_v rfl) pk_v (fld_rw P)
      have sb : eMeth "shifted" mt_shifted_2 (eVar 10) (lCons (eUn fNeg (eVar 4)) (lCons (eUn fNeg (eVar 5)) lNil)) (UU o2 P F x y k (.val (.lst (A.map pT))) (.own (pO A)) .non .non) = .ok (.own (pO P), UU o2 P F x y k (.val (.lst (A.map pT))) (.own (pO A)) .non .non) := by
        have e := shifted_ok (P := A) (s := .lent 0 (pO A)) (t := .lent 0 (pO A)) (.inr ⟨rfl, rfl⟩) oA (-x) (-y)
        rw [hA, shift_back, ← hA] at e
        have e' : f_Picture__shifted [.lent 0 (pO A), .val (.int (-x)), .val (.int (-y))] = .ok (.own (pO P), [.lent 0 (pO A), .non, .non]) := e.trans (if_pos nP)
        have l := ins_pic A "shifted" (by decide)
        have m : mt_shifted_2 "Picture" = some f_Picture__shifted := rfl
        have ia : Mi.insAt (UU o2 P F x y k (.val (.lst (A.map pT))) (.own (pO A)) .non .non) (.ali 10) = some (("Picture" : Str), pf A) := rfl
        have v10 : eVar 10 (UU o2 P F x y k (.val (.lst (A.map pT))) (.own (pO A)) .non .non) = .ok (.ali 10, UU o2 P F x y k (.val (.lst (A.map pT))) (.own (pO A)) .non .non) := rfl
        have ls : lCons (eUn fNeg (eVar 4)) (lCons (eUn fNeg (eVar 5)) lNil) (UU o2 P F x y k (.val (.lst (A.map pT))) (.own (pO A)) .non .non) = .ok ([.val (.int (-x)), .val (.int (-y))], UU o2 P F x y k (.val (.lst (A.map pT))) (.own (pO A)) .non .non) := lm_2 (un_v (var_v rfl) pk_v rfl) (un_v (var_v rfl) pk_v rfl)
        have g10 : (UU o2 P F x y k (.val (.lst (A.map pT))) (.own (pO A)) .non .non)[10]? = some (.own (pO A)) := rfl
        simp only [meth_ap, bnd_ap, v10, norm_ali, ia, m, l, ls, onMeth_ali, ta_cons, ta_nil, tk_v, M.ret, g10, lendTo, List.map_cons, List.map_nil, e', hand]
        rfl
      refine if_skip (or_ff (τ1 := UU o2 P F x y k (.val (.lst (A.map pT))) (.own (pO A)) .non .non) (bv (ne_ff un1 un2 pk_v pk_v plR (by decide))) (or_ff (τ1 := UU o2 P F x y k (.val (.lst (A.map pT))) (.own (pO A)) .non .non) (bv (own_eq (neg := true) P sb (var_v rfl) tk_v (tk_o (o := pO P))))
        (nt (bv (call_3 (s1 := .ali 10) (s2 := .val (.lst (P.map pT))) (s3 := .val (.int 1)) (var_o rfl) (var_v rfl) lit_v (tk_a (o := pO A) rfl) tk_v tk_v (tA hq))))))
    · refine ⟨.non, rfl, ?_⟩
      have dq : dueD A = tooM := if_neg hq
      have dd := due_ok oA
      rw [dq] at dd
      exact if_skip (bv (cb_2 (s1 := .val tooM) (d1 := tooM) (call_1 (var_v rfl) tk_v dd) lit_v pk_v pk_v rfl))
  obtain ⟨s10, p10, em⟩ := mid
  have re : ∀ s8 s11 s12 : Mi.S, realOk (UU o2 P F x y k s8 s10 s11 s12) (UU o2 P F x y k s8 s10 s11 s12) = true := fun s8 s11 s12 => by cases s8 <;> cases s10 <;> cases s11 <;> cases s12 <;> rfl
  have rt : ∀ s8 s10 s11 s12 : Mi.S, restT [9] (UU o2 P F x y k s8 s10 s11 s12) (UU o2 P F x y k s8 s10 s11 s12) = UU o2 P F x y k s8 s10 s11 s12 := fun s8 s10 s11 s12 => rfl
  refine run_1 (τ := UU o2 P F x y k (.val (.lst (A.map pT))) s10 (.val (.lst (B.map pT))) (.val (pic (mirP P)))) rfl ?_ rfl rfl
  refine at_seq (asgT_2 (tup_2 (mk_ok P hP nP (lm_1 (var_v rfl)) tk_v) (call_1 (var_v rfl) tk_v fo) (tk_o (o := pO P)) tk_v)) ?_
  refine at_seq d1 ?_
  refine at_seq d2 ?_
  have c8 := cmpU (own := [9]) (mi := iSeq (eVar 1)) (i := 9) (me := eTup (lCons (eOp fAdd (eOp fIx (eVar 9) (eLit (.int 0))) (eVar 4)) (lCons (eOp fAdd (eOp fIx (eVar 9) (eLit (.int 1))) (eVar 5)) lNil))) (f := fun p => (p.1 + x, p.2 + y)) (τ := UU o2 P F x y k .non .non .non .non) hP (iseq_val (.lst (P.map pT)) (var_v rfl) rfl) rfl rfl (fun p _ => by simp only [UU, pT, bnd_ap, of_ap, seq_ap, asg_ap, ret_ap, retN_ap, sif_ap, expr_ap, par_ap, par3_ap, asgT_ap, nil_ap, brk_ap, cnt_ap, give_val, give_own, give_ali, take_val, take_own, take_ali, ta_nil, ta_cons, pk_val, pk_own, pk_ali, pa_nil', pa_cons', var_ap, lit_ap, op_ap, un_ap, cb_ap, lc_ap, ln_ap, tup_ap, lst_ap, cv_ap, ck_ap, cl_ap, and_ap, or_ap, not_ap, eif_ap, bval_ap, bnot_ap, band_ap, bor_ap, gnam_ap, gtup_ap, gend_ap, gcons_ap, rng_ap, for_ap, loop_nil, setIx_ap, run_ap, M.ret, unpk, asB, back, retS, fit_of, sInt, sBl, fIx, fLen, fAbs, fInt, fList, Mi.isNon, fIsN, fNotN, fCmp, fLt, fLe, fGt, fGe, fAdd, fSub, fNeg, O.frz, Mi.pick, List.getElem?_cons_zero, List.getElem?_cons_succ, List.getElem?_nil, List.set_cons_zero, List.set_cons_succ, List.map_cons, List.map_nil, List.length_cons, List.length_nil, List.replicate_succ, List.replicate_zero, List.cons_append, List.nil_append, Option.map_some, Option.map_none, if_true, if_false, Bool.false_eq_true, Bool.not_true, Bool.not_false, decide_true, decide_false, reduceIte, ne_eq, not_true_eq_false, not_false_eq_true, List.getD_cons_zero, List.getD_cons_succ, Nat.reduceAdd, Nat.reduceSub, Nat.reduceLeDiff, Nat.reduceEqDiff, atI_0, atI_1, atI_2, lam_ap, append_ap, make_ap, setF_ap, own_ap, meth_ap, methD_ap, norm_val, norm_own, norm_ali, onMethD_ap, onMeth_val, onMeth_ali, lz_ap, raise_ap, try_ap, thunk_raw, thunk_exc, byes_ap, Mi.insAt, lendTo, hand, eChain, Mi.isL, onL, okFl]) (fun _ => rfl) rfl (rt _ _ _ _)
  have e8 : (P.map fun p => (p.1 + x, p.2 + y)) = A := by rw [hA]; rfl
  rw [e8] at c8
  refine at_seq (asg_o c8) ?_
  have dA := due_ok oA
  refine at_seq (if_skip (bv (ne_lam (Q := A) (τ1 := UU o2 P F x y k (.own (.lst (A.map pT))) .non .non .non) (lam_res (by rfl) oA ((m_shifted (var_v rfl) rfl (lm_2 (var_v rfl) (var_v rfl)) rfl hP).trans (by rw [← hA]))) (call_1 (s1 := .ali 8) (var_o rfl) (tk_a (o := .lst (A.map pT)) rfl) dA)))) ?_
  refine at_seq (if_skip (bv (ne_lam (Q := A) (τ1 := UU o2 P F x y k (.val (.lst (A.map pT))) .non .non .non) (lam_res (by rfl) oA ((m_shiftedD (var_v rfl) rfl (lm_2 (var_v rfl) (var_v rfl)) rfl rfl rfl hP).trans (by rw [← hA]))) (call_1 (var_v rfl) tk_v dA)))) ?_
  refine at_seq em ?_
  have c11 := cmpU (own := [9]) (mi := iSeq (eVar 1)) (i := 9) (me := eTup (lCons (eOp fMul (eVar 7) (eOp fIx (eVar 9) (eLit (.int 0)))) (lCons (eOp fMul (eVar 7) (eOp fIx (eVar 9) (eLit (.int 1)))) lNil))) (f := fun p => (k * p.1, k * p.2)) (τ := UU o2 P F x y k (.val (.lst (A.map pT))) s10 .non .non) hP (iseq_val (.lst (P.map pT)) (var_v rfl) rfl) rfl rfl (fun p hp => by
    have m1 := mul_ok sk (sP p hp).1
    have m2 := mul_ok sk (sP p hp).2
    simp only [UU, pT, m1, m2, bnd_ap, of_ap, seq_ap, asg_ap, ret_ap, retN_ap, sif_ap, expr_ap, par_ap, par3_ap, asgT_ap, nil_ap, brk_ap, cnt_ap, give_val, give_own, give_ali, take_val, take_own, take_ali, ta_nil, ta_cons, pk_val, pk_own, pk_ali, pa_nil', pa_cons', var_ap, lit_ap, op_ap, un_ap, cb_ap, lc_ap, ln_ap, tup_ap, lst_ap, cv_ap, ck_ap, cl_ap, and_ap, or_ap, not_ap, eif_ap, bval_ap, bnot_ap, band_ap, bor_ap, gnam_ap, gtup_ap, gend_ap, gcons_ap, rng_ap, for_ap, loop_nil, setIx_ap, run_ap, M.ret, unpk, asB, back, retS, fit_of, sInt, sBl, fIx, fLen, fAbs, fInt, fList, Mi.isNon, fIsN, fNotN, fCmp, fLt, fLe, fGt, fGe, fAdd, fSub, fNeg, O.frz, Mi.pick, List.getElem?_cons_zero, List.getElem?_cons_succ, List.getElem?_nil, List.set_cons_zero, List.set_cons_succ, List.map_cons, List.map_nil, List.length_cons, List.length_nil, List.replicate_succ, List.replicate_zero, List.cons_append, List.nil_append, Option.map_some, Option.map_none, if_true, if_false, Bool.false_eq_true, Bool.not_true, Bool.not_false, decide_true, decide_false, reduceIte, ne_eq, not_true_eq_false, not_false_eq_true, List.getD_cons_zero, List.getD_cons_succ, Nat.reduceAdd, Nat.reduceSub, Nat.reduceLeDiff, Nat.reduceEqDiff, atI_0, atI_1, atI_2, lam_ap, append_ap, make_ap, setF_ap, own_ap, meth_ap, methD_ap, norm_val, norm_own, norm_ali, onMethD_ap, onMeth_val, onMeth_ali, lz_ap, raise_ap, try_ap, thunk_raw, thunk_exc, byes_ap, Mi.insAt, lendTo, hand, eChain, Mi.isL, onL, okFl]) (fun _ => rfl) (re _ _ _) (rt _ _ _ _)
  have e11 : (P.map fun p => (k * p.1, k * p.2)) = B := by rw [hB]; rfl
  rw [e11] at c11
  refine at_seq (asg_o c11) ?_
  have dB := due_ok oB
  refine at_seq (if_skip (bv (ne_lam (Q := B) (τ1 := UU o2 P F x y k (.val (.lst (A.map pT))) s10 (.own (.lst (B.map pT))) .non) (lam_res (by rfl) oB ((m_times (var_v rfl) rfl (lm_1 (var_v rfl)) rfl hP sP sk).trans (by rw [← hB]))) (call_1 (s1 := .ali 11) (var_o rfl) (tk_a (o := .lst (B.map pT)) rfl) dB)))) ?_
  refine at_seq (if_skip (bv (ne_lam (Q := B) (τ1 := UU o2 P F x y k (.val (.lst (A.map pT))) s10 (.val (.lst (B.map pT))) .non) (lam_res (by rfl) oB ((m_timesD (var_v rfl) rfl (lm_1 (var_v rfl)) rfl rfl rfl hP sP sk).trans (by rw [← hB]))) (call_1 (var_v rfl) tk_v dB)))) ?_
  refine at_seq (τ1 := UU o2 P F x y k (.val (.lst (A.map pT))) s10 (.val (.lst (B.map pT))) .non) (by
    by_cases hq : B.all nr = true
    · have dq : dueD B = .lst (B.map pT) := if_pos hq
      rw [dq] at dB
      have m := mul_ok sk sk
      have ex : eOp fMul (eVar 7) (eVar 7) (UU o2 P F x y k (.val (.lst (A.map pT))) s10 (.val (.lst (B.map pT))) .non) = .ok (.val (.int (k * k)), UU o2 P F x y k (.val (.lst (A.map pT))) s10 (.val (.lst (B.map pT))) .non) := by simp only [UU, m, bnd_ap, of_ap, seq_ap, asg_ap, ret_ap, retN_ap, sif_ap, expr_ap, par_ap, par3_ap, asgT_ap, nil_ap, brk_ap, cnt_ap, give_val, give_own, give_ali, take_val, take_own, take_ali, ta_nil, ta_cons, pk_val, pk_own, pk_ali, pa_nil', pa_cons', var_ap, lit_ap, op_ap, un_ap, cb_ap, lc_ap, ln_ap, tup_ap, lst_ap, cv_ap, ck_ap, cl_ap, and_ap, or_ap, not_ap, eif_ap, bval_ap, bnot_ap, band_ap, bor_ap, gnam_ap, gtup_ap, gend_ap, gcons_ap, rng_ap, for_ap, loop_nil, setIx_ap, run_ap, M.ret, unpk, asB, back, retS, fit_of, sInt, sBl, fIx, fLen, fAbs, fInt, fList, Mi.isNon, fIsN, fNotN, fCmp, fLt, fLe, fGt, fGe, fAdd, fSub, fNeg, O.frz, Mi.pick, List.getElem?_cons_zero, List.getElem?_cons_succ, List.getElem?_nil, List.set_cons_zero, List.set_cons_succ, List.map_cons, List.map_nil, List.length_cons, List.length_nil, List.replicate_succ, List.replicate_zero, List.cons_append, List.nil_append, Option.map_some, Option.map_none, if_true, if_false, Bool.false_eq_true, Bool.not_true, Bool.not_false, decide_true, decide_false, reduceIte, ne_eq, not_true_eq_false, not_false_eq_true, List.getD_cons_zero, List.getD_cons_succ, Nat.reduceAdd, Nat.reduceSub, Nat.reduceLeDiff, Nat.reduceEqDiff, atI_0, atI_1, atI_2, lam_ap, append_ap, make_ap, setF_ap, own_ap, meth_ap, methD_ap, norm_val, norm_own, norm_ali, onMethD_ap, onMeth_val, onMeth_ali, lz_ap, raise_ap, try_ap, thunk_raw, thunk_exc, byes_ap, Mi.insAt, lendTo, hand, eChain, Mi.isL, onL, okFl]
      have et : eMeth "times" mt_times_1 (eVar 2) (lCons (eVar 7) lNil) (UU o2 P F x y k (.val (.lst (A.map pT))) s10 (.val (.lst (B.map pT))) .non) = .ok (.own (pO B), UU o2 P F x y k (.val (.lst (A.map pT))) s10 (.val (.lst (B.map pT))) .non) := (m_times (var_v rfl) rfl (lm_1 (var_v rfl)) rfl hP sP sk).trans (by rw [← hB]; exact res_ok hq)
      have eu : eMethD "turned" [0, 1] 2 [.int 0, .int 1] mtd_turned_2 (eVar 2) (lCons (eVar 7) (lCons (eLit (.int 0)) lNil)) (UU o2 P F x y k (.val (.lst (A.map pT))) s10 (.val (.lst (B.map pT))) .non) = .ok (.own (pO B), UU o2 P F x y k (.val (.lst (A.map pT))) s10 (.val (.lst (B.map pT))) .non) := (mD_turned rfl (var_v rfl) rfl (lm_2 (var_v rfl) lit_v) rfl rfl rfl hP sP sk s0).trans (by rw [turn_n0, ← hB]; exact res_ok hq)
      exact if_skip (and_t (bv (cb_2 (s1 := .val (.lst (B.map pT))) (d1 := .lst (B.map pT)) (call_1 (var_v rfl) tk_v dB) lit_v pk_v pk_v rfl)) (or_ff (nt (bv (call_3 et (var_v rfl) ex (tk_o (o := pO B)) tk_v tk_v (tB hq)))) (bv (own_eq (neg := true) B et eu (tk_o (o := pO B)) (tk_o (o := pO B))))))
    · have dq : dueD B = tooM := if_neg hq
      rw [dq] at dB
      exact if_skip (and_f (bv (cb_2 (s1 := .val tooM) (d1 := tooM) (call_1 (var_v rfl) tk_v dB) lit_v pk_v pk_v rfl)))) ?_
  refine at_seq (asg_o (m_mirrored (var_v rfl) rfl hP nP)) ?_
  obtain ⟨T, hT⟩ : ∃ T, T = UU o2 P F x y k (.val (.lst (A.map pT))) s10 (.val (.lst (B.map pT))) (.own (pO (mirP P))) := ⟨_, rfl⟩
  have c12 := cmpU (own := [9]) (mi := iSeq (eUn (fldD "places" is_places es_places) (eVar 12))) (i := 9) (me := eCB fTuple (lCons (eVar 9) lNil)) (f := fun p => p) (P := mirP P) (τ := UU o2 P F x y k (.val (.lst (A.map pT))) s10 (.val (.lst (B.map pT))) (.own (pO (mirP P)))) oM (iseq_val (.tup ((mirP P).map pT)) (un_v (s1 := .ali 12) (d1 := pic (mirP P)) (var_o rfl) (pk_a (o := pO (mirP P)) rfl) (fld_pl _)) rfl) rfl rfl (fun p hp => by simp only [UU, pT, fTuple, bnd_ap, of_ap, seq_ap, asg_ap, ret_ap, retN_ap, sif_ap, expr_ap, par_ap, par3_ap, asgT_ap, nil_ap, brk_ap, cnt_ap, give_val, give_own, give_ali, take_val, take_own, take_ali, ta_nil, ta_cons, pk_val, pk_own, pk_ali, pa_nil', pa_cons', var_ap, lit_ap, op_ap, un_ap, cb_ap, lc_ap, ln_ap, tup_ap, lst_ap, cv_ap, ck_ap, cl_ap, and_ap, or_ap, not_ap, eif_ap, bval_ap, bnot_ap, band_ap, bor_ap, gnam_ap, gtup_ap, gend_ap, gcons_ap, rng_ap, for_ap, loop_nil, setIx_ap, run_ap, M.ret, unpk, asB, back, retS, fit_of, sInt, sBl, fIx, fLen, fAbs, fInt, fList, Mi.isNon, fIsN, fNotN, fCmp, fLt, fLe, fGt, fGe, fAdd, fSub, fNeg, O.frz, Mi.pick, List.getElem?_cons_zero, List.getElem?_cons_succ, List.getElem?_nil, List.set_cons_zero, List.set_cons_succ, List.map_cons, List.map_nil, List.length_cons, List.length_nil, List.replicate_succ, List.replicate_zero, List.cons_append, List.nil_append, Option.map_some, Option.map_none, if_true, if_false, Bool.false_eq_true, Bool.not_true, Bool.not_false, decide_true, decide_false, reduceIte, ne_eq, not_true_eq_false, not_false_eq_true, List.getD_cons_zero, List.getD_cons_succ, Nat.reduceAdd, Nat.reduceSub, Nat.reduceLeDiff, Nat.reduceEqDiff, atI_0, atI_1, atI_2, lam_ap, append_ap, make_ap, setF_ap, own_ap, meth_ap, methD_ap, norm_val, norm_own, norm_ali, onMethD_ap, onMeth_val, onMeth_ali, lz_ap, raise_ap, try_ap, thunk_raw, thunk_exc, byes_ap, Mi.insAt, lendTo, hand, eChain, Mi.isL, onL, okFl]) (fun _ => rfl) (re _ _ _) (rt _ _ _ _)
  have c13 := cmpU (own := [9]) (mi := iSeq (eVar 1)) (i := 9) (me := eTup (lCons (eUn fNeg (eOp fIx (eVar 9) (eLit (.int 0)))) (lCons (eOp fIx (eVar 9) (eLit (.int 1))) lNil))) (f := fun p => (-p.1, p.2)) (P := P) (τ := UU o2 P F x y k (.val (.lst (A.map pT))) s10 (.val (.lst (B.map pT))) (.own (pO (mirP P)))) hP (iseq_val (.lst (P.map pT)) (var_v rfl) rfl) rfl rfl (fun p hp => by simp only [UU, pT, bnd_ap, of_ap, seq_ap, asg_ap, ret_ap, retN_ap, sif_ap, expr_ap, par_ap, par3_ap, asgT_ap, nil_ap, brk_ap, cnt_ap, give_val, give_own, give_ali, take_val, take_own, take_ali, ta_nil, ta_cons, pk_val, pk_own, pk_ali, pa_nil', pa_cons', var_ap, lit_ap, op_ap, un_ap, cb_ap, lc_ap, ln_ap, tup_ap, lst_ap, cv_ap, ck_ap, cl_ap, and_ap, or_ap, not_ap, eif_ap, bval_ap, bnot_ap, band_ap, bor_ap, gnam_ap, gtup_ap, gend_ap, gcons_ap, rng_ap, for_ap, loop_nil, setIx_ap, run_ap, M.ret, unpk, asB, back, retS, fit_of, sInt, sBl, fIx, fLen, fAbs, fInt, fList, Mi.isNon, fIsN, fNotN, fCmp, fLt, fLe, fGt, fGe, fAdd, fSub, fNeg, O.frz, Mi.pick, List.getElem?_cons_zero, List.getElem?_cons_succ, List.getElem?_nil, List.set_cons_zero, List.set_cons_succ, List.map_cons, List.map_nil, List.length_cons, List.length_nil, List.replicate_succ, List.replicate_zero, List.cons_append, List.nil_append, Option.map_some, Option.map_none, if_true, if_false, Bool.false_eq_true, Bool.not_true, Bool.not_false, decide_true, decide_false, reduceIte, ne_eq, not_true_eq_false, not_false_eq_true, List.getD_cons_zero, List.getD_cons_succ, Nat.reduceAdd, Nat.reduceSub, Nat.reduceLeDiff, Nat.reduceEqDiff, atI_0, atI_1, atI_2, lam_ap, append_ap, make_ap, setF_ap, own_ap, meth_ap, methD_ap, norm_val, norm_own, norm_ali, onMethD_ap, onMeth_val, onMeth_ali, lz_ap, raise_ap, try_ap, thunk_raw, thunk_exc, byes_ap, Mi.insAt, lendTo, hand, eChain, Mi.isL, onL, okFl]) (fun _ => rfl) (re _ _ _) (rt _ _ _ _)
  have e12 : ((mirP P).map fun p => p) = mirP P := List.map_id' _
  have e13 : (P.map fun p => (-p.1, p.2)) = mirP P := rfl
  rw [e12] at c12
  rw [e13] at c13
  refine at_seq (if_skip (or_ff (bv (ne_ff c12 c13 (pk_o (o := .lst ((mirP P).map pT))) (pk_o (o := .lst ((mirP P).map pT))) (pl_lst _) (by decide)))
    (nt (bv (call_3 (s1 := .ali 12) (s2 := .val (.lst (P.map pT))) (s3 := .val (.int 1)) (var_o rfl) (var_v rfl) lit_v (tk_a (o := pO (mirP P)) rfl) tk_v tk_v tM))))) ?_
  have c14 := cmpU (own := [9]) (mi := iSeq (eUn (fldD "places" is_places es_places) (eVar 2))) (i := 9) (me := eCB fTuple (lCons (eVar 9) lNil)) (f := fun p => p) (P := P) (τ := UU o2 P F x y k (.val (.lst (A.map pT))) s10 (.val (.lst (B.map pT))) (.val (pic (mirP P)))) hP (iseq_val (.tup (P.map pT)) (un_v (var_v rfl) pk_v (fld_pl _)) rfl) rfl rfl (fun p hp => by simp only [UU, pT, fTuple, bnd_ap, of_ap, seq_ap, asg_ap, ret_ap, retN_ap, sif_ap, expr_ap, par_ap, par3_ap, asgT_ap, nil_ap, brk_ap, cnt_ap, give_val, give_own, give_ali, take_val, take_own, take_ali, ta_nil, ta_cons, pk_val, pk_own, pk_ali, pa_nil', pa_cons', var_ap, lit_ap, op_ap, un_ap, cb_ap, lc_ap, ln_ap, tup_ap, lst_ap, cv_ap, ck_ap, cl_ap, and_ap, or_ap, not_ap, eif_ap, bval_ap, bnot_ap, band_ap, bor_ap, gnam_ap, gtup_ap, gend_ap, gcons_ap, rng_ap, for_ap, loop_nil, setIx_ap, run_ap, M.ret, unpk, asB, back, retS, fit_of, sInt, sBl, fIx, fLen, fAbs, fInt, fList, Mi.isNon, fIsN, fNotN, fCmp, fLt, fLe, fGt, fGe, fAdd, fSub, fNeg, O.frz, Mi.pick, List.getElem?_cons_zero, List.getElem?_cons_succ, List.getElem?_nil, List.set_cons_zero, List.set_cons_succ, List.map_cons, List.map_nil, List.length_cons, List.length_nil, List.replicate_succ, List.replicate_zero, List.cons_append, List.nil_append, Option.map_some, Option.map_none, if_true, if_false, Bool.false_eq_true, Bool.not_true, Bool.not_false, decide_true, decide_false, reduceIte, ne_eq, not_true_eq_false, not_false_eq_true, List.getD_cons_zero, List.getD_cons_succ, Nat.reduceAdd, Nat.reduceSub, Nat.reduceLeDiff, Nat.reduceEqDiff, atI_0, atI_1, atI_2, lam_ap, append_ap, make_ap, setF_ap, own_ap, meth_ap, methD_ap, norm_val, norm_own, norm_ali, onMethD_ap, onMeth_val, onMeth_ali, lz_ap, raise_ap, try_ap, thunk_raw, thunk_exc, byes_ap, Mi.insAt, lendTo, hand, eChain, Mi.isL, onL, okFl]) (fun _ => rfl) (re _ _ _) (rt _ _ _ _)
  have e14 : (P.map fun p => p) = P := List.map_id' _
  rw [e14] at c14
  have mm : eMeth "mirrored" mt_mirrored_0 (eVar 12) lNil (UU o2 P F x y k (.val (.lst (A.map pT))) s10 (.val (.lst (B.map pT))) (.val (pic (mirP P)))) = .ok (.own (pO P), UU o2 P F x y k (.val (.lst (A.map pT))) s10 (.val (.lst (B.map pT))) (.val (pic (mirP P)))) := (m_mirrored (var_v rfl) rfl oM nM).trans (by rw [mir_mir])
  exact ret_v (eand_t (own_eq (neg := false) P mm (var_v rfl) tk_v (tk_o (o := pO P))) (eq_tt c14 (var_v rfl) (pk_o (o := .lst (P.map pT))) pk_v (pl_lst P) (by decide)))
end K12

namespace K12
open PySem PySem.Spec PyProof.Rows L2 Mi
def Nint (d : D) : Prop := f_is_integer [.val d] = .ok (.val (.bl false), [.non])
theorem turned_n1 {P : List Pt} {d e : D} (h : Nint d) : f_Picture__turned [.val (pic P), .val d, .val e] = .exc "BadNumber" [("part", .str "x")] [.non, .non, .non] := by
  have n1 := need_no (w := .str "x") h
  rw [f_Picture__turned, run_ap]
  simp only [m_Picture__turned, n1, bnd_ap, of_ap, seq_ap, asg_ap, ret_ap, retN_ap, sif_ap, expr_ap, par_ap, par3_ap, asgT_ap, nil_ap, brk_ap, cnt_ap, give_val, give_own, give_ali, take_val, take_own, take_ali, ta_nil, ta_cons, pk_val, pk_own, pk_ali, pa_nil', pa_cons', var_ap, lit_ap, op_ap, un_ap, cb_ap, lc_ap, ln_ap, tup_ap, lst_ap, cv_ap, ck_ap, cl_ap, and_ap, or_ap, not_ap, eif_ap, bval_ap, bnot_ap, band_ap, bor_ap, gnam_ap, gtup_ap, gend_ap, gcons_ap, rng_ap, for_ap, loop_nil, setIx_ap, run_ap, M.ret, unpk, asB, back, retS, fit_of, sInt, sBl, fIx, fLen, fAbs, fInt, fList, Mi.isNon, fIsN, fNotN, fCmp, fLt, fLe, fGt, fGe, fAdd, fSub, fNeg, O.frz, Mi.pick, List.getElem?_cons_zero, List.getElem?_cons_succ, List.getElem?_nil, List.set_cons_zero, List.set_cons_succ, List.map_cons, List.map_nil, List.length_cons, List.length_nil, List.replicate_succ, List.replicate_zero, List.cons_append, List.nil_append, Option.map_some, Option.map_none, if_true, if_false, Bool.false_eq_true, Bool.not_true, Bool.not_false, decide_true, decide_false, reduceIte, ne_eq, not_true_eq_false, not_false_eq_true, List.getD_cons_zero, List.getD_cons_succ, Nat.reduceAdd, Nat.reduceSub, Nat.reduceLeDiff, Nat.reduceEqDiff, atI_0, atI_1, atI_2, lam_ap, append_ap, make_ap, setF_ap, own_ap, meth_ap, methD_ap, norm_val, norm_own, norm_ali, onMethD_ap, onMeth_val, onMeth_ali, lz_ap, raise_ap, try_ap, thunk_raw, thunk_exc, byes_ap, Mi.insAt, lendTo, hand, eChain, Mi.isL, onL, okFl]
theorem turned_n2 {P : List Pt} {x : Int} {e : D} (h : Nint e) : f_Picture__turned [.val (pic P), .val (.int x), .val e] = .exc "BadNumber" [("part", .str "y")] [.non, .non, .non] := by
  have n1 := need_any x (.str "x")
  have n2 := need_no (w := .str "y") h
  rw [f_Picture__turned, run_ap]
  simp only [m_Picture__turned, n1, n2, bnd_ap, of_ap, seq_ap, asg_ap, ret_ap, retN_ap, sif_ap, expr_ap, par_ap, par3_ap, asgT_ap, nil_ap, brk_ap, cnt_ap, give_val, give_own, give_ali, take_val, take_own, take_ali, ta_nil, ta_cons, pk_val, pk_own, pk_ali, pa_nil', pa_cons', var_ap, lit_ap, op_ap, un_ap, cb_ap, lc_ap, ln_ap, tup_ap, lst_ap, cv_ap, ck_ap, cl_ap, and_ap, or_ap, not_ap, eif_ap, bval_ap, bnot_ap, band_ap, bor_ap, gnam_ap, gtup_ap, gend_ap, gcons_ap, rng_ap, for_ap, loop_nil, setIx_ap, run_ap, M.ret, unpk, asB, back, retS, fit_of, sInt, sBl, fIx, fLen, fAbs, fInt, fList, Mi.isNon, fIsN, fNotN, fCmp, fLt, fLe, fGt, fGe, fAdd, fSub, fNeg, O.frz, Mi.pick, List.getElem?_cons_zero, List.getElem?_cons_succ, List.getElem?_nil, List.set_cons_zero, List.set_cons_succ, List.map_cons, List.map_nil, List.length_cons, List.length_nil, List.replicate_succ, List.replicate_zero, List.cons_append, List.nil_append, Option.map_some, Option.map_none, if_true, if_false, Bool.false_eq_true, Bool.not_true, Bool.not_false, decide_true, decide_false, reduceIte, ne_eq, not_true_eq_false, not_false_eq_true, List.getD_cons_zero, List.getD_cons_succ, Nat.reduceAdd, Nat.reduceSub, Nat.reduceLeDiff, Nat.reduceEqDiff, atI_0, atI_1, atI_2, lam_ap, append_ap, make_ap, setF_ap, own_ap, meth_ap, methD_ap, norm_val, norm_own, norm_ali, onMethD_ap, onMeth_val, onMeth_ali, lz_ap, raise_ap, try_ap, thunk_raw, thunk_exc, byes_ap, Mi.insAt, lendTo, hand, eChain, Mi.isL, onL, okFl]
theorem shifted_n1 {P : List Pt} {d e : D} (h : Nint d) : f_Picture__shifted [.val (pic P), .val d, .val e] = .exc "BadNumber" [("part", .str "x")] [.non, .non, .non] := by
  have n1 := need_no (w := .str "x") h
  rw [f_Picture__shifted, run_ap]
  simp only [m_Picture__shifted, n1, bnd_ap, of_ap, seq_ap, asg_ap, ret_ap, retN_ap, sif_ap, expr_ap, par_ap, par3_ap, asgT_ap, nil_ap, brk_ap, cnt_ap, give_val, give_own, give_ali, take_val, take_own, take_ali, ta_nil, ta_cons, pk_val, pk_own, pk_ali, pa_nil', pa_cons', var_ap, lit_ap, op_ap, un_ap, cb_ap, lc_ap, ln_ap, tup_ap, lst_ap, cv_ap, ck_ap, cl_ap, and_ap, or_ap, not_ap, eif_ap, bval_ap, bnot_ap, band_ap, bor_ap, gnam_ap, gtup_ap, gend_ap, gcons_ap, rng_ap, for_ap, loop_nil, setIx_ap, run_ap, M.ret, unpk, asB, back, retS, fit_of, sInt, sBl, fIx, fLen, fAbs, fInt, fList, Mi.isNon, fIsN, fNotN, fCmp, fLt, fLe, fGt, fGe, fAdd, fSub, fNeg, O.frz, Mi.pick, List.getElem?_cons_zero, List.getElem?_cons_succ, List.getElem?_nil, List.set_cons_zero, List.set_cons_succ, List.map_cons, List.map_nil, List.length_cons, List.length_nil, List.replicate_succ, List.replicate_zero, List.cons_append, List.nil_append, Option.map_some, Option.map_none, if_true, if_false, Bool.false_eq_true, Bool.not_true, Bool.not_false, decide_true, decide_false, reduceIte, ne_eq, not_true_eq_false, not_false_eq_true, List.getD_cons_zero, List.getD_cons_succ, Nat.reduceAdd, Nat.reduceSub, Nat.reduceLeDiff, Nat.reduceEqDiff, atI_0, atI_1, atI_2, lam_ap, append_ap, make_ap, setF_ap, own_ap, meth_ap, methD_ap, norm_val, norm_own, norm_ali, onMethD_ap, onMeth_val, onMeth_ali, lz_ap, raise_ap, try_ap, thunk_raw, thunk_exc, byes_ap, Mi.insAt, lendTo, hand, eChain, Mi.isL, onL, okFl]
theorem shifted_n2 {P : List Pt} {x : Int} {e : D} (h : Nint e) : f_Picture__shifted [.val (pic P), .val (.int x), .val e] = .exc "BadNumber" [("part", .str "y")] [.non, .non, .non] := by
  have n1 := need_any x (.str "x")
  have n2 := need_no (w := .str "y") h
  rw [f_Picture__shifted, run_ap]
  simp only [m_Picture__shifted, n1, n2, bnd_ap, of_ap, seq_ap, asg_ap, ret_ap, retN_ap, sif_ap, expr_ap, par_ap, par3_ap, asgT_ap, nil_ap, brk_ap, cnt_ap, give_val, give_own, give_ali, take_val, take_own, take_ali, ta_nil, ta_cons, pk_val, pk_own, pk_ali, pa_nil', pa_cons', var_ap, lit_ap, op_ap, un_ap, cb_ap, lc_ap, ln_ap, tup_ap, lst_ap, cv_ap, ck_ap, cl_ap, and_ap, or_ap, not_ap, eif_ap, bval_ap, bnot_ap, band_ap, bor_ap, gnam_ap, gtup_ap, gend_ap, gcons_ap, rng_ap, for_ap, loop_nil, setIx_ap, run_ap, M.ret, unpk, asB, back, retS, fit_of, sInt, sBl, fIx, fLen, fAbs, fInt, fList, Mi.isNon, fIsN, fNotN, fCmp, fLt, fLe, fGt, fGe, fAdd, fSub, fNeg, O.frz, Mi.pick, List.getElem?_cons_zero, List.getElem?_cons_succ, List.getElem?_nil, List.set_cons_zero, List.set_cons_succ, List.map_cons, List.map_nil, List.length_cons, List.length_nil, List.replicate_succ, List.replicate_zero, List.cons_append, List.nil_append, Option.map_some, Option.map_none, if_true, if_false, Bool.false_eq_true, Bool.not_true, Bool.not_false, decide_true, decide_false, reduceIte, ne_eq, not_true_eq_false, not_false_eq_true, List.getD_cons_zero, List.getD_cons_succ, Nat.reduceAdd, Nat.reduceSub, Nat.reduceLeDiff, Nat.reduceEqDiff, atI_0, atI_1, atI_2, lam_ap, append_ap, make_ap, setF_ap, own_ap, meth_ap, methD_ap, norm_val, norm_own, norm_ali, onMethD_ap, onMeth_val, onMeth_ali, lz_ap, raise_ap, try_ap, thunk_raw, thunk_exc, byes_ap, Mi.insAt, lendTo, hand, eChain, Mi.isL, onL, okFl]
theorem times_n {P : List Pt} {d : D} (h : Nint d) : f_Picture__times [.val (pic P), .val d] = .exc "BadNumber" [("part", .str "number")] [.non, .non] := by
  have n1 := need_no (w := .str "number") h
  rw [f_Picture__times, run_ap]
  simp only [m_Picture__times, n1, bnd_ap, of_ap, seq_ap, asg_ap, ret_ap, retN_ap, sif_ap, expr_ap, par_ap, par3_ap, asgT_ap, nil_ap, brk_ap, cnt_ap, give_val, give_own, give_ali, take_val, take_own, take_ali, ta_nil, ta_cons, pk_val, pk_own, pk_ali, pa_nil', pa_cons', var_ap, lit_ap, op_ap, un_ap, cb_ap, lc_ap, ln_ap, tup_ap, lst_ap, cv_ap, ck_ap, cl_ap, and_ap, or_ap, not_ap, eif_ap, bval_ap, bnot_ap, band_ap, bor_ap, gnam_ap, gtup_ap, gend_ap, gcons_ap, rng_ap, for_ap, loop_nil, setIx_ap, run_ap, M.ret, unpk, asB, back, retS, fit_of, sInt, sBl, fIx, fLen, fAbs, fInt, fList, Mi.isNon, fIsN, fNotN, fCmp, fLt, fLe, fGt, fGe, fAdd, fSub, fNeg, O.frz, Mi.pick, List.getElem?_cons_zero, List.getElem?_cons_succ, List.getElem?_nil, List.set_cons_zero, List.set_cons_succ, List.map_cons, List.map_nil, List.length_cons, List.length_nil, List.replicate_succ, List.replicate_zero, List.cons_append, List.nil_append, Option.map_some, Option.map_none, if_true, if_false, Bool.false_eq_true, Bool.not_true, Bool.not_false, decide_true, decide_false, reduceIte, ne_eq, not_true_eq_false, not_false_eq_true, List.getD_cons_zero, List.getD_cons_succ, Nat.reduceAdd, Nat.reduceSub, Nat.reduceLeDiff, Nat.reduceEqDiff, atI_0, atI_1, atI_2, lam_ap, append_ap, make_ap, setF_ap, own_ap, meth_ap, methD_ap, norm_val, norm_own, norm_ali, onMethD_ap, onMeth_val, onMeth_ali, lz_ap, raise_ap, try_ap, thunk_raw, thunk_exc, byes_ap, Mi.insAt, lendTo, hand, eChain, Mi.isL, onL, okFl]
theorem mD_exc {k : Str} {mf : Fn} {ix : List Nat} {nn : Nat} {dd : List D} {tab : Str → Option Fn} {mo : M Mi.S} {ms : M (List Mi.S)} {τ τ2 τ3 out : List Mi.S} {ss : List Mi.S} {ds as : List D} {P : List Pt} {c : Str} {fs : List (Str × D)} (ht : tab "Picture" = some mf) (hk : k ≠ "places" ∧ k ≠ "pins" ∧ k ≠ "rows") (h1 : mo τ = .ok (.val (pic P), τ)) (h2 : ms τ = .ok (ss, τ2)) (h3 : takeAll ss τ2 = .ok (ds, τ3)) (h4 : ds.length = nn) (h5 : pick .non ix (ds ++ dd) = as) (e : mf (.val (pic P) :: as.map Mi.S.val) = .exc c fs out) : eMethD k ix nn dd tab mo ms τ = .exc c fs τ3 := by
  have l := ins_pic P k hk
  have ia : Mi.insAt τ (.val (pic P)) = some (("Picture" : Str), pf P) := rfl
  have t : takeAll (as.map Mi.S.val) τ3 = .ok (as, τ3) := by
    clear e h5
    induction as with
    | nil => rfl
    | cons a as ih => simp only [List.map_cons, ta_cons, bnd_ap, tk_v, ih, M.ret]
  simp only [methD_ap, bnd_ap, h1, norm_val, ia, ht, l, h2, onMethD_ap, h3, h4, if_true, h5, onMeth_val, t, List.map_cons, e]
theorem m_exc {k : Str} {mf : Fn} {tab : Str → Option Fn} {mo : M Mi.S} {ms : M (List Mi.S)} {τ τ2 τ3 out : List Mi.S} {ss : List Mi.S} {as : List D} {P : List Pt} {c : Str} {fs : List (Str × D)} (ht : tab "Picture" = some mf) (hk : k ≠ "places" ∧ k ≠ "pins" ∧ k ≠ "rows") (h1 : mo τ = .ok (.val (pic P), τ)) (h2 : ms τ = .ok (ss, τ2)) (h3 : takeAll ss τ2 = .ok (as, τ3)) (e : mf (.val (pic P) :: as.map Mi.S.val) = .exc c fs out) : eMeth k tab mo ms τ = .exc c fs τ3 := by
  have l := ins_pic P k hk
  have ia : Mi.insAt τ (.val (pic P)) = some (("Picture" : Str), pf P) := rfl
  simp only [meth_ap, bnd_ap, h1, norm_val, ia, ht, l, h2, onMeth_val, h3, List.map_cons, e]
theorem lst_1 {ma : M Mi.S} {τ τ1 τ2 : List Mi.S} {s : Mi.S} {d : D} (h : ma τ = .ok (s, τ1)) (t : take s τ1 = .ok (d, τ2)) : eLst (lCons ma lNil) τ = .ok (.own (.lst [d]), τ2) := by
  have f : fitL ([d] : List D).length = some () := fit_of (by simp)
  simp only [lst_ap, bnd_ap, lm_1 h, ta_cons, ta_nil, t, M.ret, of_ap, f]
def FP : List Pt := [(1000000000, 0), (0, -1000000000), (1, 1), (2, 2)]
abbrev RR (o : O) (P : List Pt) (a b : D) (s6 s7 : Mi.S) : List Mi.S := [.lent 0 o, .val (.lst (P.map pT)), .val (pic P), .val a, .val b, .val (pic FP), s6, s7]
theorem refused_right_v {o : O} {n : Nat} {P : List Pt} (h : VS o n) (hn : n < 700000) (hP : Ok P) (hN : Near P) : ∃ o', f__law_refused_right [.lent 0 o, .val (.lst (P.map pT))] = .ok (.val (.bl true), [.lent 0 o', .non]) ∧ VS o' (n + 20) := by
  obtain ⟨a, o1, e1, m1, v1⟩ := pick_v (xs := [.non, .bl true, .bl false, .str "1", .tup [.int 1], .lst [.int 2], .dic [], .tup [.int 1, .int 2]]) h (by omega) (by simp) (by simp)
  obtain ⟨b, o2, e2, m2, v2⟩ := pick_v (xs := [.str "", .non, .bl false, .lst [], .tup [.int 0, .int 0]]) v1 (by omega) (by simp) (by simp)
  have ha : Nint a := by
    simp only [List.mem_cons, List.not_mem_nil, or_false] at m1
    rcases m1 with rfl | rfl | rfl | rfl | rfl | rfl | rfl | rfl
    · exact int_no rfl
    · exact int_bl _
    · exact int_bl _
    · exact int_no rfl
    · exact int_no rfl
    · exact int_no rfl
    · exact int_no rfl
    · exact int_no rfl
  have hb : Nint b := by
    simp only [List.mem_cons, List.not_mem_nil, or_false] at m2
    rcases m2 with rfl | rfl | rfl | rfl | rfl
    · exact int_no rfl
    · exact int_no rfl
    · exact int_bl _
    · exact int_no rfl
    · exact int_no rfl
  refine ⟨o2, ?_, by
    obtain ⟨c, s, t, q1, q2, q3, q4⟩ := v2
    exact ⟨c, s, t, q1, q2, by omega, q4⟩⟩
  have nP := near_nr hN
  have oF : Ok FP := ⟨by decide, by decide⟩
  have nF : FP.all nr = true := by decide
  have sF : SmP FP := sm_nr nF
  have s1 : Sm 1 := sm_of (by decide)
  have s2 : Sm 2 := sm_of (by decide)
  have sm1 : Sm (-1) := sm_of (by decide)
  have sm2 : Sm (-2) := sm_of (by decide)
  let X : D := .tup [.str "number", .str "x"]
  let Y : D := .tup [.str "number", .str "y"]
  let Z : D := .tup [.str "number", .str "number"]
  let W : D := .lst [.tup [.int (-1000000000), .int 0], .tup [.int 0, .int 1000000000], .tup [.int (-1), .int (-1)], .tup [.int (-2), .int (-2)]]
  have hs : ∀ s : Str, s = s := fun _ => rfl
  have kt : (("turned" : Str) ≠ "places" ∧ ("turned" : Str) ≠ "pins" ∧ ("turned" : Str) ≠ "rows") := by decide
  have ks : (("shifted" : Str) ≠ "places" ∧ ("shifted" : Str) ≠ "pins" ∧ ("shifted" : Str) ≠ "rows") := by decide
  have km : (("times" : Str) ≠ "places" ∧ ("times" : Str) ≠ "pins" ∧ ("times" : Str) ≠ "rows") := by decide
  have aX : ∀ (xs ys : List D), xs.length + ys.length ≤ 1000 → fAdd (.lst xs) (.lst ys) = some (.own (.lst (xs ++ ys))) := fun xs ys hl => by
    have : xs.length + ys.length ≤ sizeLine := by rw [sizeLine_eq]; omega
    simp only [fAdd, this, if_true]
  have b0 : (shiftP 1 0 FP).all nr = false := by decide
  have b1 : (shiftP 0 (-1) FP).all nr = false := by decide
  have b2 : (turnP 1 2 FP).all nr = false := by decide
  have b3 : (timesP (-2) FP).all nr = false := by decide
  have b4 : (timesP (-1) FP).all nr = true := by decide
  have un1 : ∀ (τ : List Mi.S) (i : Int), eUn fNeg (eLit (.int i)) τ = .ok (.val (.int (-i)), τ) := fun τ i => un_v lit_v pk_v rfl
  refine run_1 (τ := RR o2 P a b (.own (.lst [X, Y, Y, X, Y, Y, Z, tooM, tooM, tooM, tooM, W])) (.own (.lst [X, Y, Y, X, Y, Y, Z, tooM, tooM]))) rfl ?_ rfl rfl
  refine at_seq (τ1 := [.lent 0 o1, .val (.lst (P.map pT)), .val (pic P), .val a, .non, .non, .non, .non]) (asgT_2 (tup_2 (τ2 := [.lent 0 o1, .val (.lst (P.map pT)), .non, .non, .non, .non, .non, .non]) (mk_ok P hP nP (lm_1 (var_v rfl)) tk_v) (by simp only [e1, bnd_ap, of_ap, seq_ap, asg_ap, ret_ap, retN_ap, sif_ap, expr_ap, par_ap, par3_ap, asgT_ap, nil_ap, brk_ap, cnt_ap, give_val, give_own, give_ali, take_val, take_own, take_ali, ta_nil, ta_cons, pk_val, pk_own, pk_ali, pa_nil', pa_cons', var_ap, lit_ap, op_ap, un_ap, cb_ap, lc_ap, ln_ap, tup_ap, lst_ap, cv_ap, ck_ap, cl_ap, and_ap, or_ap, not_ap, eif_ap, bval_ap, bnot_ap, band_ap, bor_ap, gnam_ap, gtup_ap, gend_ap, gcons_ap, rng_ap, for_ap, loop_nil, setIx_ap, run_ap, M.ret, unpk, asB, back, retS, fit_of, sInt, sBl, fIx, fLen, fAbs, fInt, fList, Mi.isNon, fIsN, fNotN, fCmp, fLt, fLe, fGt, fGe, fAdd, fSub, fNeg, O.frz, Mi.pick, List.getElem?_cons_zero, List.getElem?_cons_succ, List.getElem?_nil, List.set_cons_zero, List.set_cons_succ, List.map_cons, List.map_nil, List.length_cons, List.length_nil, List.replicate_succ, List.replicate_zero, List.cons_append, List.nil_append, Option.map_some, Option.map_none, if_true, if_false, Bool.false_eq_true, Bool.not_true, Bool.not_false, decide_true, decide_false, reduceIte, ne_eq, not_true_eq_false, not_false_eq_true, List.getD_cons_zero, List.getD_cons_succ, Nat.reduceAdd, Nat.reduceSub, Nat.reduceLeDiff, Nat.reduceEqDiff, atI_0, atI_1, atI_2, lam_ap, append_ap, make_ap, setF_ap, own_ap, meth_ap, methD_ap, norm_val, norm_own, norm_ali, onMethD_ap, onMeth_val, onMeth_ali, lz_ap, raise_ap, try_ap, thunk_raw, thunk_exc, byes_ap, Mi.insAt, lendTo, hand, eChain, Mi.isL, onL, okFl]) (tk_o (o := pO P)) tk_v)) ?_
  refine at_seq (τ1 := RR o2 P a b .non .non) (asgT_2 (tup_2 (τ1 := [.lent 0 o2, .val (.lst (P.map pT)), .val (pic P), .val a, .non, .non, .non, .non]) (by simp only [e2, bnd_ap, of_ap, seq_ap, asg_ap, ret_ap, retN_ap, sif_ap, expr_ap, par_ap, par3_ap, asgT_ap, nil_ap, brk_ap, cnt_ap, give_val, give_own, give_ali, take_val, take_own, take_ali, ta_nil, ta_cons, pk_val, pk_own, pk_ali, pa_nil', pa_cons', var_ap, lit_ap, op_ap, un_ap, cb_ap, lc_ap, ln_ap, tup_ap, lst_ap, cv_ap, ck_ap, cl_ap, and_ap, or_ap, not_ap, eif_ap, bval_ap, bnot_ap, band_ap, bor_ap, gnam_ap, gtup_ap, gend_ap, gcons_ap, rng_ap, for_ap, loop_nil, setIx_ap, run_ap, M.ret, unpk, asB, back, retS, fit_of, sInt, sBl, fIx, fLen, fAbs, fInt, fList, Mi.isNon, fIsN, fNotN, fCmp, fLt, fLe, fGt, fGe, fAdd, fSub, fNeg, O.frz, Mi.pick, List.getElem?_cons_zero, List.getElem?_cons_succ, List.getElem?_nil, List.set_cons_zero, List.set_cons_succ, List.map_cons, List.map_nil, List.length_cons, List.length_nil, List.replicate_succ, List.replicate_zero, List.cons_append, List.nil_append, Option.map_some, Option.map_none, if_true, if_false, Bool.false_eq_true, Bool.not_true, Bool.not_false, decide_true, decide_false, reduceIte, ne_eq, not_true_eq_false, not_false_eq_true, List.getD_cons_zero, List.getD_cons_succ, Nat.reduceAdd, Nat.reduceSub, Nat.reduceLeDiff, Nat.reduceEqDiff, atI_0, atI_1, atI_2, lam_ap, append_ap, make_ap, setF_ap, own_ap, meth_ap, methD_ap, norm_val, norm_own, norm_ali, onMethD_ap, onMeth_val, onMeth_ali, lz_ap, raise_ap, try_ap, thunk_raw, thunk_exc, byes_ap, Mi.insAt, lendTo, hand, eChain, Mi.isL, onL, okFl]) (mk_ok FP oF nF (τ1 := [.lent 0 o2, .val (.lst (P.map pT)), .val (pic P), .val a, .non, .non, .non, .non]) (s := .own (.lst (FP.map pT))) (by simp only [p9, FP, pT, bnd_ap, of_ap, seq_ap, asg_ap, ret_ap, retN_ap, sif_ap, expr_ap, par_ap, par3_ap, asgT_ap, nil_ap, brk_ap, cnt_ap, give_val, give_own, give_ali, take_val, take_own, take_ali, ta_nil, ta_cons, pk_val, pk_own, pk_ali, pa_nil', pa_cons', var_ap, lit_ap, op_ap, un_ap, cb_ap, lc_ap, ln_ap, tup_ap, lst_ap, cv_ap, ck_ap, cl_ap, and_ap, or_ap, not_ap, eif_ap, bval_ap, bnot_ap, band_ap, bor_ap, gnam_ap, gtup_ap, gend_ap, gcons_ap, rng_ap, for_ap, loop_nil, setIx_ap, run_ap, M.ret, unpk, asB, back, retS, fit_of, sInt, sBl, fIx, fLen, fAbs, fInt, fList, Mi.isNon, fIsN, fNotN, fCmp, fLt, fLe, fGt, fGe, fAdd, fSub, fNeg, O.frz, Mi.pick, List.getElem?_cons_zero, List.getElem?_cons_succ, List.getElem?_nil, List.set_cons_zero, List.set_cons_succ, List.map_cons, List.map_nil, List.length_cons, List.length_nil, List.replicate_succ, List.replicate_zero, List.cons_append, List.nil_append, Option.map_some, Option.map_none, if_true, if_false, Bool.false_eq_true, Bool.not_true, Bool.not_false, decide_true, decide_false, reduceIte, ne_eq, not_true_eq_false, not_false_eq_true, List.getD_cons_zero, List.getD_cons_succ, Nat.reduceAdd, Nat.reduceSub, Nat.reduceLeDiff, Nat.reduceEqDiff, atI_0, atI_1, atI_2, lam_ap, append_ap, make_ap, setF_ap, own_ap, meth_ap, methD_ap, norm_val, norm_own, norm_ali, onMethD_ap, onMeth_val, onMeth_ali, lz_ap, raise_ap, try_ap, thunk_raw, thunk_exc, byes_ap, Mi.insAt, lendTo, hand, eChain, Mi.isL, onL, okFl]) rfl) tk_v (tk_o (o := pO FP)))) ?_
  refine at_seq (τ1 := RR o2 P a b (.own (.lst [X])) .non) (asg_o (o := .lst [X]) (τ1 := RR o2 P a b .non .non) (lst_1 (lam_exc (w := .str "x") (by rfl) (mD_exc rfl kt (var_v rfl) (lm_2 (var_v rfl) (var_v rfl)) rfl rfl rfl (turned_n1 ha))) tk_v)) ?_
  refine at_seq (τ1 := RR o2 P a b (.own (.lst [X, Y])) .non) (app_v (i := 6) (xs := [X]) (d := Y) (τ2 := RR o2 P a b (.own (.lst [X])) .non) (by rfl) (lam_exc (w := .str "y") (by rfl) (mD_exc rfl kt (var_v rfl) (lm_2 lit_v (var_v rfl)) rfl rfl rfl (turned_n2 hb))) tk_v (by rfl) (by simp)) ?_
  refine at_seq (τ1 := RR o2 P a b (.own (.lst [X, Y, Y])) .non) (app_v (i := 6) (xs := [X, Y]) (d := Y) (τ2 := RR o2 P a b (.own (.lst [X, Y])) .non) (by rfl) (lam_exc (w := .str "y") (by rfl) (mD_exc rfl kt (var_v rfl) (lm_1 (var_v rfl)) rfl rfl rfl (turned_n2 ha))) tk_v (by rfl) (by simp)) ?_
  refine at_seq (τ1 := RR o2 P a b (.own (.lst [X, Y, Y])) (.own (.lst [X, Y, Y]))) (asg_o (τ1 := RR o2 P a b (.own (.lst [X, Y, Y])) .non) (by simp only [X, Y, bnd_ap, of_ap, seq_ap, asg_ap, ret_ap, retN_ap, sif_ap, expr_ap, par_ap, par3_ap, asgT_ap, nil_ap, brk_ap, cnt_ap, give_val, give_own, give_ali, take_val, take_own, take_ali, ta_nil, ta_cons, pk_val, pk_own, pk_ali, pa_nil', pa_cons', var_ap, lit_ap, op_ap, un_ap, cb_ap, lc_ap, ln_ap, tup_ap, lst_ap, cv_ap, ck_ap, cl_ap, and_ap, or_ap, not_ap, eif_ap, bval_ap, bnot_ap, band_ap, bor_ap, gnam_ap, gtup_ap, gend_ap, gcons_ap, rng_ap, for_ap, loop_nil, setIx_ap, run_ap, M.ret, unpk, asB, back, retS, fit_of, sInt, sBl, fIx, fLen, fAbs, fInt, fList, Mi.isNon, fIsN, fNotN, fCmp, fLt, fLe, fGt, fGe, fAdd, fSub, fNeg, O.frz, Mi.pick, List.getElem?_cons_zero, List.getElem?_cons_succ, List.getElem?_nil, List.set_cons_zero, List.set_cons_succ, List.map_cons, List.map_nil, List.length_cons, List.length_nil, List.replicate_succ, List.replicate_zero, List.cons_append, List.nil_append, Option.map_some, Option.map_none, if_true, if_false, Bool.false_eq_true, Bool.not_true, Bool.not_false, decide_true, decide_false, reduceIte, ne_eq, not_true_eq_false, not_false_eq_true, List.getD_cons_zero, List.getD_cons_succ, Nat.reduceAdd, Nat.reduceSub, Nat.reduceLeDiff, Nat.reduceEqDiff, atI_0, atI_1, atI_2, lam_ap, append_ap, make_ap, setF_ap, own_ap, meth_ap, methD_ap, norm_val, norm_own, norm_ali, onMethD_ap, onMeth_val, onMeth_ali, lz_ap, raise_ap, try_ap, thunk_raw, thunk_exc, byes_ap, Mi.insAt, lendTo, hand, eChain, Mi.isL, onL, okFl])) ?_
  refine at_seq (τ1 := RR o2 P a b (.own (.lst [X, Y, Y, X])) (.own (.lst [X, Y, Y]))) (app_v (i := 6) (xs := [X, Y, Y]) (d := X) (τ2 := RR o2 P a b (.own (.lst [X, Y, Y])) (.own (.lst [X, Y, Y]))) (by rfl) (lam_exc (w := .str "x") (by rfl) (m_exc rfl ks (var_v rfl) (lm_2 (var_v rfl) (var_v rfl)) rfl (shifted_n1 ha))) tk_v (by rfl) (by simp)) ?_
  refine at_seq (τ1 := RR o2 P a b (.own (.lst [X, Y, Y, X, Y])) (.own (.lst [X, Y, Y]))) (app_v (i := 6) (xs := [X, Y, Y, X]) (d := Y) (τ2 := RR o2 P a b (.own (.lst [X, Y, Y, X])) (.own (.lst [X, Y, Y]))) (by rfl) (lam_exc (w := .str "y") (by rfl) (m_exc rfl ks (var_v rfl) (lm_2 lit_v (var_v rfl)) rfl (shifted_n2 hb))) tk_v (by rfl) (by simp)) ?_
  refine at_seq (τ1 := RR o2 P a b (.own (.lst [X, Y, Y, X, Y, Y])) (.own (.lst [X, Y, Y]))) (app_v (i := 6) (xs := [X, Y, Y, X, Y]) (d := Y) (τ2 := RR o2 P a b (.own (.lst [X, Y, Y, X, Y])) (.own (.lst [X, Y, Y]))) (by rfl) (lam_exc (w := .str "y") (by rfl) (mD_exc rfl kt (var_v rfl) (lm_2 lit_v (var_v rfl)) rfl rfl rfl (turned_n2 ha))) tk_v (by rfl) (by simp)) ?_
  refine at_seq (τ1 := RR o2 P a b (.own (.lst [X, Y, Y, X, Y, Y])) (.own (.lst [X, Y, Y, X, Y, Y]))) (asg_o (τ1 := RR o2 P a b (.own (.lst [X, Y, Y, X, Y, Y])) (.own (.lst [X, Y, Y]))) (op_v (s1 := .ali 7) (s2 := .own (.lst [X, Y, Y])) (var_o rfl) (by simp only [X, Y, bnd_ap, of_ap, seq_ap, asg_ap, ret_ap, retN_ap, sif_ap, expr_ap, par_ap, par3_ap, asgT_ap, nil_ap, brk_ap, cnt_ap, give_val, give_own, give_ali, take_val, take_own, take_ali, ta_nil, ta_cons, pk_val, pk_own, pk_ali, pa_nil', pa_cons', var_ap, lit_ap, op_ap, un_ap, cb_ap, lc_ap, ln_ap, tup_ap, lst_ap, cv_ap, ck_ap, cl_ap, and_ap, or_ap, not_ap, eif_ap, bval_ap, bnot_ap, band_ap, bor_ap, gnam_ap, gtup_ap, gend_ap, gcons_ap, rng_ap, for_ap, loop_nil, setIx_ap, run_ap, M.ret, unpk, asB, back, retS, fit_of, sInt, sBl, fIx, fLen, fAbs, fInt, fList, Mi.isNon, fIsN, fNotN, fCmp, fLt, fLe, fGt, fGe, fAdd, fSub, fNeg, O.frz, Mi.pick, List.getElem?_cons_zero, List.getElem?_cons_succ, List.getElem?_nil, List.set_cons_zero, List.set_cons_succ, List.map_cons, List.map_nil, List.length_cons, List.length_nil, List.replicate_succ, List.replicate_zero, List.cons_append, List.nil_append, Option.map_some, Option.map_none, if_true, if_false, Bool.false_eq_true, Bool.not_true, Bool.not_false, decide_true, decide_false, reduceIte, ne_eq, not_true_eq_false, not_false_eq_true, List.getD_cons_zero, List.getD_cons_succ, Nat.reduceAdd, Nat.reduceSub, Nat.reduceLeDiff, Nat.reduceEqDiff, atI_0, atI_1, atI_2, lam_ap, append_ap, make_ap, setF_ap, own_ap, meth_ap, methD_ap, norm_val, norm_own, norm_ali, onMethD_ap, onMeth_val, onMeth_ali, lz_ap, raise_ap, try_ap, thunk_raw, thunk_exc, byes_ap, Mi.insAt, lendTo, hand, eChain, Mi.isL, onL, okFl]) (pk_a (o := .lst [X, Y, Y]) rfl) (pk_o (o := .lst [X, Y, Y])) (aX _ _ (by simp)))) ?_
  refine at_seq (τ1 := RR o2 P a b (.own (.lst [X, Y, Y, X, Y, Y, Z])) (.own (.lst [X, Y, Y, X, Y, Y]))) (app_v (i := 6) (xs := [X, Y, Y, X, Y, Y]) (d := Z) (τ2 := RR o2 P a b (.own (.lst [X, Y, Y, X, Y, Y])) (.own (.lst [X, Y, Y, X, Y, Y]))) (by rfl) (lam_exc (w := .str "number") (by rfl) (m_exc rfl km (var_v rfl) (lm_1 (var_v rfl)) rfl (times_n ha))) tk_v (by rfl) (by simp)) ?_
  refine at_seq (τ1 := RR o2 P a b (.own (.lst [X, Y, Y, X, Y, Y, Z, tooM])) (.own (.lst [X, Y, Y, X, Y, Y]))) (app_v (i := 6) (xs := [X, Y, Y, X, Y, Y, Z]) (d := tooM) (τ2 := RR o2 P a b (.own (.lst [X, Y, Y, X, Y, Y, Z])) (.own (.lst [X, Y, Y, X, Y, Y]))) (by rfl) ((lam_res (Q := shiftP 1 0 FP) (by rfl) (oF.map _) (m_shifted (var_v rfl) rfl (lm_2 lit_v lit_v) rfl oF)).trans (by rw [hs_f b0])) tk_v (by rfl) (by simp)) ?_
  refine at_seq (τ1 := RR o2 P a b (.own (.lst [X, Y, Y, X, Y, Y, Z, tooM, tooM])) (.own (.lst [X, Y, Y, X, Y, Y]))) (app_v (i := 6) (xs := [X, Y, Y, X, Y, Y, Z, tooM]) (d := tooM) (τ2 := RR o2 P a b (.own (.lst [X, Y, Y, X, Y, Y, Z, tooM])) (.own (.lst [X, Y, Y, X, Y, Y]))) (by rfl) ((lam_res (Q := shiftP 0 (-1) FP) (by rfl) (oF.map _) (m_shifted (var_v rfl) rfl (lm_2 lit_v (un1 _ _)) rfl oF)).trans (by rw [hs_f b1])) tk_v (by rfl) (by simp)) ?_
  refine at_seq (τ1 := RR o2 P a b (.own (.lst [X, Y, Y, X, Y, Y, Z, tooM, tooM])) (.own (.lst [X, Y, Y, X, Y, Y, Z, tooM, tooM]))) (asg_o (τ1 := RR o2 P a b (.own (.lst [X, Y, Y, X, Y, Y, Z, tooM, tooM])) (.own (.lst [X, Y, Y, X, Y, Y]))) (op_v (s1 := .ali 7) (s2 := .own (.lst [Z, tooM, tooM])) (var_o rfl) (by simp only [Z, tooM, p9, bnd_ap, of_ap, seq_ap, asg_ap, ret_ap, retN_ap, sif_ap, expr_ap, par_ap, par3_ap, asgT_ap, nil_ap, brk_ap, cnt_ap, give_val, give_own, give_ali, take_val, take_own, take_ali, ta_nil, ta_cons, pk_val, pk_own, pk_ali, pa_nil', pa_cons', var_ap, lit_ap, op_ap, un_ap, cb_ap, lc_ap, ln_ap, tup_ap, lst_ap, cv_ap, ck_ap, cl_ap, and_ap, or_ap, not_ap, eif_ap, bval_ap, bnot_ap, band_ap, bor_ap, gnam_ap, gtup_ap, gend_ap, gcons_ap, rng_ap, for_ap, loop_nil, setIx_ap, run_ap, M.ret, unpk, asB, back, retS, fit_of, sInt, sBl, fIx, fLen, fAbs, fInt, fList, Mi.isNon, fIsN, fNotN, fCmp, fLt, fLe, fGt, fGe, fAdd, fSub, fNeg, O.frz, Mi.pick, List.getElem?_cons_zero, List.getElem?_cons_succ, List.getElem?_nil, List.set_cons_zero, List.set_cons_succ, List.map_cons, List.map_nil, List.length_cons, List.length_nil, List.replicate_succ, List.replicate_zero, List.cons_append, List.nil_append, Option.map_some, Option.map_none, if_true, if_false, Bool.false_eq_true, Bool.not_true, Bool.not_false, decide_true, decide_false, reduceIte, ne_eq, not_true_eq_false, not_false_eq_true, List.getD_cons_zero, List.getD_cons_succ, Nat.reduceAdd, Nat.reduceSub, Nat.reduceLeDiff, Nat.reduceEqDiff, atI_0, atI_1, atI_2, lam_ap, append_ap, make_ap, setF_ap, own_ap, meth_ap, methD_ap, norm_val, norm_own, norm_ali, onMethD_ap, onMeth_val, onMeth_ali, lz_ap, raise_ap, try_ap, thunk_raw, thunk_exc, byes_ap, Mi.insAt, lendTo, hand, eChain, Mi.isL, onL, okFl]) (pk_a (o := .lst [X, Y, Y, X, Y, Y]) rfl) (pk_o (o := .lst [Z, tooM, tooM])) (aX _ _ (by simp)))) ?_
  refine at_seq (τ1 := RR o2 P a b (.own (.lst [X, Y, Y, X, Y, Y, Z, tooM, tooM, tooM])) (.own (.lst [X, Y, Y, X, Y, Y, Z, tooM, tooM]))) (app_v (i := 6) (xs := [X, Y, Y, X, Y, Y, Z, tooM, tooM]) (d := tooM) (τ2 := RR o2 P a b (.own (.lst [X, Y, Y, X, Y, Y, Z, tooM, tooM])) (.own (.lst [X, Y, Y, X, Y, Y, Z, tooM, tooM]))) (by rfl) ((lam_res (Q := turnP 1 2 FP) (by rfl) (oF.map _) (mD_turned rfl (var_v rfl) rfl (lm_2 lit_v lit_v) rfl rfl rfl oF sF s1 s2)).trans (by rw [hs_f b2])) tk_v (by rfl) (by simp)) ?_
  refine at_seq (τ1 := RR o2 P a b (.own (.lst [X, Y, Y, X, Y, Y, Z, tooM, tooM, tooM, tooM])) (.own (.lst [X, Y, Y, X, Y, Y, Z, tooM, tooM]))) (app_v (i := 6) (xs := [X, Y, Y, X, Y, Y, Z, tooM, tooM, tooM]) (d := tooM) (τ2 := RR o2 P a b (.own (.lst [X, Y, Y, X, Y, Y, Z, tooM, tooM, tooM])) (.own (.lst [X, Y, Y, X, Y, Y, Z, tooM, tooM]))) (by rfl) ((lam_res (Q := timesP (-2) FP) (by rfl) (oF.map _) (m_times (var_v rfl) rfl (lm_1 (un1 _ _)) rfl oF sF sm2)).trans (by rw [hs_f b3])) tk_v (by rfl) (by simp)) ?_
  refine at_seq (τ1 := RR o2 P a b (.own (.lst [X, Y, Y, X, Y, Y, Z, tooM, tooM, tooM, tooM, W])) (.own (.lst [X, Y, Y, X, Y, Y, Z, tooM, tooM]))) (app_v (i := 6) (xs := [X, Y, Y, X, Y, Y, Z, tooM, tooM, tooM, tooM]) (d := W) (τ2 := RR o2 P a b (.own (.lst [X, Y, Y, X, Y, Y, Z, tooM, tooM, tooM, tooM])) (.own (.lst [X, Y, Y, X, Y, Y, Z, tooM, tooM]))) (by rfl) ((lam_res (Q := timesP (-1) FP) (by rfl) (oF.map _) (m_times (var_v rfl) rfl (lm_1 (un1 _ _)) rfl oF sF sm1)).trans (by rw [hs_t b4])) (tk_o (o := .lst ((timesP (-1) FP).map pT))) (by rfl) (by simp)) ?_
  have fin : fEq (.lst [X, Y, Y, X, Y, Y, Z, tooM, tooM, tooM, tooM, W]) (.lst [X, Y, Y, X, Y, Y, Z, tooM, tooM, tooM, tooM, W]) = some (.val (.bl true)) := by kernel_rfl
  exact ret_v (op_v (s1 := .ali 6) (s2 := .own (.lst [X, Y, Y, X, Y, Y, Z, tooM, tooM, tooM, tooM, W])) (var_o rfl) (op_v (s1 := .ali 7) (s2 := .own (.lst [tooM, tooM, W])) (var_o rfl) (by simp only [tooM, W, p9, bnd_ap, of_ap, seq_ap, asg_ap, ret_ap, retN_ap, sif_ap, expr_ap, par_ap, par3_ap, asgT_ap, nil_ap, brk_ap, cnt_ap, give_val, give_own, give_ali, take_val, take_own, take_ali, ta_nil, ta_cons, pk_val, pk_own, pk_ali, pa_nil', pa_cons', var_ap, lit_ap, op_ap, un_ap, cb_ap, lc_ap, ln_ap, tup_ap, lst_ap, cv_ap, ck_ap, cl_ap, and_ap, or_ap, not_ap, eif_ap, bval_ap, bnot_ap, band_ap, bor_ap, gnam_ap, gtup_ap, gend_ap, gcons_ap, rng_ap, for_ap, loop_nil, setIx_ap, run_ap, M.ret, unpk, asB, back, retS, fit_of, sInt, sBl, fIx, fLen, fAbs, fInt, fList, Mi.isNon, fIsN, fNotN, fCmp, fLt, fLe, fGt, fGe, fAdd, fSub, fNeg, O.frz, Mi.pick, List.getElem?_cons_zero, List.getElem?_cons_succ, List.getElem?_nil, List.set_cons_zero, List.set_cons_succ, List.map_cons, List.map_nil, List.length_cons, List.length_nil, List.replicate_succ, List.replicate_zero, List.cons_append, List.nil_append, Option.map_some, Option.map_none, if_true, if_false, Bool.false_eq_true, Bool.not_true, Bool.not_false, decide_true, decide_false, reduceIte, ne_eq, not_true_eq_false, not_false_eq_true, List.getD_cons_zero, List.getD_cons_succ, Nat.reduceAdd, Nat.reduceSub, Nat.reduceLeDiff, Nat.reduceEqDiff, atI_0, atI_1, atI_2, lam_ap, append_ap, make_ap, setF_ap, own_ap, meth_ap, methD_ap, norm_val, norm_own, norm_ali, onMethD_ap, onMeth_val, onMeth_ali, lz_ap, raise_ap, try_ap, thunk_raw, thunk_exc, byes_ap, Mi.insAt, lendTo, hand, eChain, Mi.isL, onL, okFl]) (pk_a (o := .lst [X, Y, Y, X, Y, Y, Z, tooM, tooM]) rfl) (pk_o (o := .lst [tooM, tooM, W])) (aX _ _ (by simp))) (pk_a (o := .lst [X, Y, Y, X, Y, Y, Z, tooM, tooM, tooM, tooM, W]) rfl) (pk_o (o := .lst [X, Y, Y, X, Y, Y, Z, tooM, tooM, tooM, tooM, W])) fin)
end K12

namespace K12
open PySem PySem.Spec PyProof.Rows L2 Mi
theorem rg3 : ranged1 [.int 3] = some [.int 0, .int 1, .int 2] := by
  have : Mi.inR 3 = true := by decide
  simp only [ranged1, this, if_true]
  rfl
theorem turn_v {o : O} {n : Nat} (s : D) (i : D) (t3 : Mi.S) (h : VS o n) (hn : n < 600000) : ∃ (o' : O) (t3' : Mi.S), (sSeq (sAsg 3 (eCallL f__law_places (lCons (eVar 1) (lNil)))) (sIf (bOr (bNot (bVal (eCallL f__law_turned_right (lCons (eVar 1) (lCons (eVar 3) (lNil)))))) (bOr (bNot (bVal (eCallL f__law_changed_right (lCons (eVar 1) (lCons (eVar 3) (lNil)))))) (bNot (bVal (eCallL f__law_refused_right (lCons (eVar 1) (lCons (eVar 3) (lNil)))))))) (sRet (eLit (.bl false))) (sNil))) [.val s, .own o, .val i, t3] = .ok (.nx, [.val s, .own o', .val i, t3']) ∧ VS o' (n + 200) := by
  obtain ⟨P, o1, e1, hP, hN, v1⟩ := places_v h (by omega)
  obtain ⟨o2, e2, v2⟩ := turned_right_v v1 (by omega) hP hN
  obtain ⟨o3, e3, v3⟩ := changed_right_v v2 (by omega) hP hN
  obtain ⟨o4, e4, v4⟩ := refused_right_v v3 (by omega) hP hN
  refine ⟨o4, .val (.lst (P.map pT)), ?_, by
    obtain ⟨c, s, t, q1, q2, q3, q4⟩ := v4
    exact ⟨c, s, t, q1, q2, by omega, q4⟩⟩
  have fz : O.frz (.lst (P.map pT)) = .lst (P.map pT) := rfl
  simp only [e1, e2, e3, e4, fz, bnd_ap, of_ap, seq_ap, asg_ap, ret_ap, retN_ap, sif_ap, expr_ap, par_ap, par3_ap, asgT_ap, nil_ap, brk_ap, cnt_ap, give_val, give_own, give_ali, take_val, take_own, take_ali, ta_nil, ta_cons, pk_val, pk_own, pk_ali, pa_nil', pa_cons', var_ap, lit_ap, op_ap, un_ap, cb_ap, lc_ap, ln_ap, tup_ap, lst_ap, cv_ap, ck_ap, cl_ap, and_ap, or_ap, not_ap, eif_ap, bval_ap, bnot_ap, band_ap, bor_ap, gnam_ap, gtup_ap, gend_ap, gcons_ap, rng_ap, for_ap, loop_nil, setIx_ap, run_ap, M.ret, unpk, asB, back, retS, fit_of, sInt, sBl, fIx, fLen, fAbs, fInt, fList, Mi.isNon, fIsN, fNotN, fCmp, fLt, fLe, fGt, fGe, fAdd, fSub, fNeg, O.frz, Mi.pick, List.getElem?_cons_zero, List.getElem?_cons_succ, List.getElem?_nil, List.set_cons_zero, List.set_cons_succ, List.map_cons, List.map_nil, List.length_cons, List.length_nil, List.replicate_succ, List.replicate_zero, List.cons_append, List.nil_append, Option.map_some, Option.map_none, if_true, if_false, Bool.false_eq_true, Bool.not_true, Bool.not_false, decide_true, decide_false, reduceIte, ne_eq, not_true_eq_false, not_false_eq_true, List.getD_cons_zero, List.getD_cons_succ, Nat.reduceAdd, Nat.reduceSub, Nat.reduceLeDiff, Nat.reduceEqDiff, atI_0, atI_1, atI_2, lam_ap, append_ap, make_ap, setF_ap, own_ap, meth_ap, methD_ap, norm_val, norm_own, norm_ali, onMethD_ap, onMeth_val, onMeth_ali, lz_ap, raise_ap, try_ap, thunk_raw, thunk_exc, byes_ap, Mi.insAt, lendTo, hand, eChain, Mi.isL, onL, okFl]
theorem law_true (ns : List Int) (hl : ns.length ≤ 63) (hb : ∀ z ∈ ns, Builtin.Int.intBits z ≤ 1048576) : ∃ out, f_law [.val (.scr (ns.map D.int))] = .ok (.val (.bl true), out) := by
  obtain ⟨o, e0, v0⟩ := lens_v ns hl
  obtain ⟨o1, t1, e1, v1⟩ := turn_v (.scr (ns.map D.int)) (.int 0) .non v0 (by omega)
  obtain ⟨o2, t2, e2, v2⟩ := turn_v (.scr (ns.map D.int)) (.int 1) t1 v1 (by omega)
  obtain ⟨o3, t3, e3, v3⟩ := turn_v (.scr (ns.map D.int)) (.int 2) t2 v2 (by omega)
  refine ⟨[.non], ?_⟩
  refine run_1 (τ := [.val (.scr (ns.map D.int)), .own o3, .val (.int 2), t3]) rfl ?_ rfl rfl
  refine at_seq (asg_o (call_1 (var_v rfl) tk_v e0)) ?_
  refine at_seq (τ1 := [.val (.scr (ns.map D.int)), .own o3, .val (.int 2), t3]) ?_ (ret_v lit_v)
  have r : iRng ranged1 (lCons (eLit (.int 3)) lNil) [.val (.scr (ns.map D.int)), .own o, .non, .non] = .ok (([.int 0, .int 1, .int 2], noPin), [.val (.scr (ns.map D.int)), .own o, .non, .non]) := by
    simp only [rg3, bnd_ap, of_ap, seq_ap, asg_ap, ret_ap, retN_ap, sif_ap, expr_ap, par_ap, par3_ap, asgT_ap, nil_ap, brk_ap, cnt_ap, give_val, give_own, give_ali, take_val, take_own, take_ali, ta_nil, ta_cons, pk_val, pk_own, pk_ali, pa_nil', pa_cons', var_ap, lit_ap, op_ap, un_ap, cb_ap, lc_ap, ln_ap, tup_ap, lst_ap, cv_ap, ck_ap, cl_ap, and_ap, or_ap, not_ap, eif_ap, bval_ap, bnot_ap, band_ap, bor_ap, gnam_ap, gtup_ap, gend_ap, gcons_ap, rng_ap, for_ap, loop_nil, setIx_ap, run_ap, M.ret, unpk, asB, back, retS, fit_of, sInt, sBl, fIx, fLen, fAbs, fInt, fList, Mi.isNon, fIsN, fNotN, fCmp, fLt, fLe, fGt, fGe, fAdd, fSub, fNeg, O.frz, Mi.pick, List.getElem?_cons_zero, List.getElem?_cons_succ, List.getElem?_nil, List.set_cons_zero, List.set_cons_succ, List.map_cons, List.map_nil, List.length_cons, List.length_nil, List.replicate_succ, List.replicate_zero, List.cons_append, List.nil_append, Option.map_some, Option.map_none, if_true, if_false, Bool.false_eq_true, Bool.not_true, Bool.not_false, decide_true, decide_false, reduceIte, ne_eq, not_true_eq_false, not_false_eq_true, List.getD_cons_zero, List.getD_cons_succ, Nat.reduceAdd, Nat.reduceSub, Nat.reduceLeDiff, Nat.reduceEqDiff, atI_0, atI_1, atI_2, lam_ap, append_ap, make_ap, setF_ap, own_ap, meth_ap, methD_ap, norm_val, norm_own, norm_ali, onMethD_ap, onMeth_val, onMeth_ali, lz_ap, raise_ap, try_ap, thunk_raw, thunk_exc, byes_ap, Mi.insAt, lendTo, hand, eChain, Mi.isL, onL, okFl]
  show sFor _ _ _ [.val (.scr (ns.map D.int)), .own o, .non, .non] = _
  rw [for_ap]
  simp only [bnd_ap, r]
  rw [loop_cons]
  simp only [gnam_ap, List.set_cons_succ, List.set_cons_zero]
  rw [e1]
  simp only
  rw [loop_cons]
  simp only [gnam_ap, List.set_cons_succ, List.set_cons_zero]
  rw [e2]
  simp only
  rw [loop_cons]
  simp only [gnam_ap, List.set_cons_succ, List.set_cons_zero]
  rw [e3]
  simp only [loop_nil]
end K12

namespace K12
open PySem PySem.Spec PyProof.Rows L2 Mi
/-! the head's run -/
def loose0 : List PySem.Str := ["_wall", "SeenError", "BadNumber", "BadPicture", "Misfit", "Missing", "NoPin", "TooMany", "BadText", "is_integer", "is_within", "need_number", "need_pin", "integer_of", "Scan", "is_place", "are_places", "rows_of", "changed", "take_place", "take_places", "Picture", "_law_lens", "_law_shot", "_law_pick", "_law_places", "_law_two", "_law_at", "_law_farthest", "_law_heard"]
def loose1 : List PySem.Str := ["_law_due", "_law_products", "_law_are_times", "_law_turned_right", "_law_changed_right", "_law_refused_right", "DIGITS", "MOST_DIGITS", "FEWEST_PINS", "MOST_PINS", "FARTHEST", "NEXT"]
def loose : List PySem.Str := loose0 ++ loose1
abbrev Rr : PySem.W.OpenRow := PySem.W.OpenLaw.row PySem.Challenge.rw_farseen_k12_pictures_turned_shifted_mult
abbrev hk : PySem.W.Hook := He.hookX 6 fa fn [] (tq.map (·.1)) fun K => (exs K).all id
def ob (s : PySem.W.SharedT) : He.AlX := He.obsX 6 fa fn [] (tq.map (·.1)) (fun K => (exs K).all id) (HandSHeadRun.getT s)
theorem ob_eq (s : PySem.W.SharedT) : ob s = hk.obs s.abs := He.obsX_eq (HandSHeadRun.getT_eq s)
theorem run (w : World) : HandSHeadRun.RunEq Rr (PySem.W.view Rr.prog [47]) hk ob 40000 loose w := by
  intro os
  kernel_rfl
end K12
open PySem PySem.W PySem.Calls PyProof.Rows
theorem PySem.Challenge.cw_farseen_k12_pictures_turned_shifted_mult_holds : PySem.Challenge.rw_farseen_k12_pictures_turned_shifted_mult.Holds := by
  w_on; o_law
  refine HandSHeadRun.head_any (r := OpenLaw.row PySem.Challenge.rw_farseen_k12_pictures_turned_shifted_mult) (q := view (OpenLaw.row PySem.Challenge.rw_farseen_k12_pictures_turned_shifted_mult).prog [47]) (H := K12.hk) (ob := K12.ob) (M := 40000) (loose := K12.loose) (d := HandSHeadRun.topDef (OpenLaw.row PySem.Challenge.rw_farseen_k12_pictures_turned_shifted_mult).prog 47) (kwd := []) K12.ob_eq
    (by kernel_rfl) (fun s => by kernel_rfl) K12.run (by kernel_rfl) (by kernel_rfl) (by kernel_rfl) (by rfl) (by first | assumption | decide +kernel) (by decide +kernel) ⟨rfl, rfl, rfl, rfl, rfl, by decide +kernel⟩ ?hw ?hc
  case hw => w_witness2
  case hc =>
    exact Mi.law_walk (l := PySem.Challenge.rw_farseen_k12_pictures_turned_shifted_mult) (n := 63) (k := 12) (x := "_law_script") (dl := K12.df29) (mf := K12.f_law) (nd := 6) 29 36 rfl (by decide) (by kernel_rfl) ⟨rfl, by decide, by decide⟩ rfl rfl rfl rfl rfl (fun _ _ _ _ _ _ us hl => match us, hl with | [_], _ => rfl) (fun w K mg base fd hd Fu => K12.o_law hd Fu) K12.law_true
