import PyProof.Rows.All
import Wide.All
import OpenK.AllK
import Wide.FinOn
import PySem.Challenge.RW_farseen_k01_checks_of_any_value
import KE.KStateDown
import Lean
import HandS.ForMost
import HandS.ForExc
import HandS.ExcInit
import HandS.IsInst
import HandS.Lambda
import HandS.Wide
import HandS.CallSlots
import KE.KExcIs
import HandS.ExcIs
import HandS.Head0
import HandS.Head1
import HandS.Head2
import HandS.HeadEnd
import HandS.HeadHook1
import HandS.HeadHook2
import HandS.HeadHook3
import HandS.HeadHook4
import HandS.HeadWalk
import HandS.EndTab
import HandS.Style
import HandS.Iter
import HandS.Zip
import HandS.Text
import HandS.Deep
import HandS.OwnEq
import PyProof.ListStr
import PyProof.StrBlock2
import HandS.SetKeys
import KE.GoesMore
set_option Elab.async false
set_option linter.all false
set_option maxRecDepth 100000
set_option maxHeartbeats 0
set_option exponentiation.threshold 4000
/-! ### M1: plain data, what stands for it in the abstract heap, the state of a body -/
namespace Mi
open PySem PySem.Spec PyProof.Rows L2

/-- plain data: what a value is worth, without addresses -/
inductive D where
  | non | bl (b : Bool) | int (i : Int) | str (x : Str)
  | lst (xs : List D) | tup (xs : List D) | dic (kvs : List (Key × D)) | scr (xs : List D)
  | ins (c : Str) (fs : List (Str × D)) | exc (c : Str) (fs : List (Str × D))
  | ty (n : String) | cls (c : Str) | fn (f : Str)
/-- what is ours alone and may change -/
inductive O where
  | lst (xs : List D) | ins (c : Str) (fs : List (Str × D))
/-- how a slot stands -/
inductive S where
  | non | val (d : D) | own (o : O) | lent (j : Nat) (o : O) | ali (i : Nat) | raw
/-- an outcome -/
inductive R (α : Type) where
  | ok (a : α) | exc (c : Str) (fs : List (Str × D)) (τ : List S) | stuck
abbrev M (α : Type) := List S → R (α × List S)

/-- what stands still through the whole law -/
structure Gx where
  K : PySem.W.Frag
  cls : Str → Option Addr
  fn : Str → Option Addr
  T : List (Addr × Str)

def Le (Φ H : Hp) : Prop := ∀ a o, Φ a = some o → H a = some o
theorem Le.refl (H : Hp) : Le H H := fun _ _ h => h
theorem Le.trans {A B C : Hp} (x : Le A B) (y : Le B C) : Le A C := fun a o h => y a o (x a o h)

/-- at a: an exception of the class at C that is not in flight, its own dict d -/
def exn (a C : Addr) (d : Option Addr) : HO := .ext fun h => ∃ (oe : Obj) (vs : Array Value), h.get? a = some oe ∧ oe.cls = .ref C ∧ oe.dict = d ∧ oe.data = .fields vs
mutual
/-- v stands for d, by what never changes -/
inductive Fz (G : Gx) (Φ : Hp) : V → D → Prop
  | non : Fz G Φ .non .non
  | bl (b : Bool) : Fz G Φ (.bl b) (.bl b)
  | int (i : Int) : Fz G Φ (.int i) (.int i)
  | str (x : Str) : Fz G Φ (.str x) (.str x)
  | ty (n : String) : Fz G Φ (.ty n) (.ty n)
  | lst {a : Addr} {vs : List V} {ds : List D} : Φ a = some (.lst vs) → FzL G Φ vs ds → Fz G Φ (.ref a) (.lst ds)
  | scr {a : Addr} {vs : List V} {ds : List D} : SqL G.K Φ a vs → FzL G Φ vs ds → Fz G Φ (.ref a) (.scr ds)
  | tup {a : Addr} {vs : List V} {ds : List D} : SqT G.K Φ a vs → FzL G Φ vs ds → Fz G Φ (.ref a) (.tup ds)
  | dic {a : Addr} {kvs : List (Key × V)} {ds : List (Key × D)} : Φ a = some (.dK kvs) → FzK G Φ kvs ds → Fz G Φ (.ref a) (.dic ds)
  | ins {a C dx : Addr} {c : Str} {fs : List (Str × V)} {ds : List (Str × D)} : Φ a = some (.ins C dx fs) → G.cls c = some C → FzF G Φ fs ds → Fz G Φ (.ref a) (.ins c ds)
  | exc0 {a C : Addr} {c : Str} : Φ a = some (exn a C none) → G.cls c = some C → Fz G Φ (.ref a) (.exc c [])
  | exc1 {a C dd : Addr} {c : Str} {fs : List (Str × V)} {ds : List (Str × D)} : Φ a = some (exn a C (some dd)) → G.cls c = some C → Φ dd = some (.xd fs) → FzF G Φ fs ds → Fz G Φ (.ref a) (.exc c ds)
  | cls {C : Addr} {c : Str} : G.cls c = some C → Fz G Φ (.ref C) (.cls c)
  | fn {a : Addr} {f : Str} : G.fn f = some a → Fz G Φ (.ref a) (.fn f)
inductive FzL (G : Gx) (Φ : Hp) : List V → List D → Prop
  | nil : FzL G Φ [] []
  | cons {v : V} {d : D} {vs : List V} {ds : List D} : Fz G Φ v d → FzL G Φ vs ds → FzL G Φ (v :: vs) (d :: ds)
inductive FzK (G : Gx) (Φ : Hp) : List (Key × V) → List (Key × D) → Prop
  | nil : FzK G Φ [] []
  | cons {k : Key} {v : V} {d : D} {vs : List (Key × V)} {ds : List (Key × D)} : Fz G Φ v d → FzK G Φ vs ds → FzK G Φ ((k, v) :: vs) ((k, d) :: ds)
inductive FzF (G : Gx) (Φ : Hp) : List (Str × V) → List (Str × D) → Prop
  | nil : FzF G Φ [] []
  | cons {f : Str} {v : V} {d : D} {vs : List (Str × V)} {ds : List (Str × D)} : Fz G Φ v d → FzF G Φ vs ds → FzF G Φ ((f, v) :: vs) ((f, d) :: ds)
end

section
variable {G : Gx} {Φ Φ' H H' : Hp}
theorem Rd.le {a : Addr} {u : HO} (h : Rd Φ a u) (l : Le Φ Φ') : Rd Φ' a u := by
  rcases h with h | ⟨o, h⟩
  · exact .inl (l _ _ h)
  · exact .inr ⟨o, l _ _ h⟩
theorem SqL.le {K : PySem.W.Frag} {a : Addr} {vs : List V} (h : SqL K Φ a vs) (l : Le Φ Φ') : SqL K Φ' a vs := h.elim (fun h => .inl (Rd.le h l)) .inr
theorem SqT.le {K : PySem.W.Frag} {a : Addr} {vs : List V} (h : SqT K Φ a vs) (l : Le Φ Φ') : SqT K Φ' a vs := h.elim (fun h => .inl (Rd.le h l)) .inr
mutual
theorem Fz.le (l : Le Φ Φ') {v : V} {d : D} : Fz G Φ v d → Fz G Φ' v d
  | .non => .non
  | .bl b => .bl b
  | .int i => .int i
  | .str x => .str x
  | .ty n => .ty n
  | .lst h t => .lst (l _ _ h) (FzL.le l t)
  | .scr h t => .scr (SqL.le h l) (FzL.le l t)
  | .tup h t => .tup (SqT.le h l) (FzL.le l t)
  | .dic h t => .dic (l _ _ h) (FzK.le l t)
  | .ins h c t => .ins (l _ _ h) c (FzF.le l t)
  | .exc0 h c => .exc0 (l _ _ h) c
  | .exc1 h c k t => .exc1 (l _ _ h) c (l _ _ k) (FzF.le l t)
  | .cls c => .cls c
  | .fn f => .fn f
theorem FzL.le (l : Le Φ Φ') {v : List V} {d : List D} : FzL G Φ v d → FzL G Φ' v d
  | .nil => .nil
  | .cons h t => .cons (Fz.le l h) (FzL.le l t)
theorem FzK.le (l : Le Φ Φ') {v : List (Key × V)} {d : List (Key × D)} : FzK G Φ v d → FzK G Φ' v d
  | .nil => .nil
  | .cons h t => .cons (Fz.le l h) (FzK.le l t)
theorem FzF.le (l : Le Φ Φ') {v : List (Str × V)} {d : List (Str × D)} : FzF G Φ v d → FzF G Φ' v d
  | .nil => .nil
  | .cons h t => .cons (Fz.le l h) (FzF.le l t)
end
theorem FzL.length {vs : List V} {ds : List D} : FzL G Φ vs ds → vs.length = ds.length
  | .nil => rfl
  | .cons _ t => by rw [List.length_cons, List.length_cons, FzL.length t]
theorem FzL.get : ∀ {vs : List V} {ds : List D} {i : Nat} {d : D}, FzL G Φ vs ds → ds[i]? = some d → ∃ v, vs[i]? = some v ∧ Fz G Φ v d
  | _, _, _, _, .nil, e => by simp at e
  | _, _, 0, _, .cons h _, e => by
    simp at e
    subst e
    exact ⟨_, rfl, h⟩
  | _, _, i + 1, _, .cons _ t, e => by
    obtain ⟨v, h1, h2⟩ := FzL.get (i := i) t (by simpa using e)
    exact ⟨v, by simpa using h1, h2⟩
theorem FzL.getV : ∀ {vs : List V} {ds : List D} {i : Nat} {v : V}, FzL G Φ vs ds → vs[i]? = some v → ∃ d, ds[i]? = some d ∧ Fz G Φ v d
  | _, _, _, _, .nil, e => by simp at e
  | _, _, 0, _, .cons h _, e => by
    simp at e
    subst e
    exact ⟨_, rfl, h⟩
  | _, _, i + 1, _, .cons _ t, e => by
    obtain ⟨d, h1, h2⟩ := FzL.getV (i := i) t (by simpa using e)
    exact ⟨d, by simpa using h1, h2⟩
theorem FzL.append : ∀ {vs ws : List V} {ds es : List D}, FzL G Φ vs ds → FzL G Φ ws es → FzL G Φ (vs ++ ws) (ds ++ es)
  | _, _, _, _, .nil, h => h
  | _, _, _, _, .cons h t, q => .cons h (FzL.append t q)
theorem FzL.set : ∀ {vs : List V} {ds : List D} {v : V} {d : D} (i : Nat), FzL G Φ vs ds → Fz G Φ v d → FzL G Φ (vs.set i v) (ds.set i d)
  | _, _, _, _, _, .nil, _ => .nil
  | _, _, _, _, 0, .cons _ t, q => .cons q t
  | _, _, _, _, i + 1, .cons h t, q => .cons h (FzL.set i t q)
theorem FzL.take : ∀ {vs : List V} {ds : List D} (n : Nat), FzL G Φ vs ds → FzL G Φ (vs.take n) (ds.take n)
  | _, _, 0, _ => .nil
  | _, _, _ + 1, .nil => .nil
  | _, _, n + 1, .cons h t => .cons h (FzL.take n t)
theorem FzL.drop : ∀ {vs : List V} {ds : List D} (n : Nat), FzL G Φ vs ds → FzL G Φ (vs.drop n) (ds.drop n)
  | _, _, 0, h => h
  | _, _, _ + 1, .nil => .nil
  | _, _, n + 1, .cons _ t => FzL.drop n t
theorem FzL.reverse : ∀ {vs : List V} {ds : List D}, FzL G Φ vs ds → FzL G Φ vs.reverse ds.reverse
  | _, _, .nil => .nil
  | _, _, .cons h t => by
    rw [List.reverse_cons, List.reverse_cons]
    exact FzL.append (FzL.reverse t) (.cons h .nil)
theorem FzF.look : ∀ {vs : List (Str × V)} {ds : List (Str × D)} {f : Str} {d : D}, FzF G Φ vs ds → ds.lookup f = some d → ∃ v, vs.lookup f = some v ∧ Fz G Φ v d
  | _, _, _, _, .nil, e => by simp at e
  | _, _, f, d, .cons (f := g) h t, e => by
    by_cases hf : (f == g) = true
    · rw [List.lookup_cons, hf] at e
      cases e
      exact ⟨_, by rw [List.lookup_cons, hf], h⟩
    · have hf' : (f == g) = false := by simpa using hf
      rw [List.lookup_cons, hf'] at e
      obtain ⟨v, h1, h2⟩ := FzF.look t e
      exact ⟨v, by rw [List.lookup_cons, hf']; exact h1, h2⟩
theorem FzF.look0 : ∀ {vs : List (Str × V)} {ds : List (Str × D)} {f : Str}, FzF G Φ vs ds → ds.lookup f = none → vs.lookup f = none
  | _, _, _, .nil, _ => by simp
  | _, _, f, .cons (f := g) h t, e => by
    by_cases hf : (f == g) = true
    · rw [List.lookup_cons, hf] at e
      cases e
    · have hf' : (f == g) = false := by simpa using hf
      rw [List.lookup_cons, hf'] at e
      rw [List.lookup_cons, hf']
      exact FzF.look0 t e
/-- a field stored -/
def putD (f : Str) (d : D) : List (Str × D) → List (Str × D)
  | [] => [(f, d)]
  | (g, e) :: r => if g = f then (g, d) :: r else (g, e) :: putD f d r
end

/-- v at a stands for what is ours -/
def Ow (G : Gx) (Φ H : Hp) (a : Addr) : O → Prop
  | .lst xs => ∃ vs, H a = some (.lst vs) ∧ FzL G Φ vs xs
  | .ins c fs => ∃ C dx vs, H a = some (.ins C dx vs) ∧ G.cls c = some C ∧ FzF G Φ vs fs
/-- what it is worth when nobody changes it any more -/
def O.frz : O → D
  | .lst xs => .lst xs
  | .ins c fs => .ins c fs

/-- a body's frame: the world and the abstract heap at its entry, what was lent to it -/
structure Fm where
  G : Gx
  Φ0 : Hp
  H0 : Hp
  P : Nat → Option Addr
  raw : Option Addr

abbrev Env1 := List (Option V × S)
def S.real : S → Prop
  | .non => False
  | .raw => False
  | .ali _ => False
  | _ => True
/-- one slot, one value in the air -/
def One (F : Fm) (Φ H : Hp) (σ : L2.St) (τ : List S) : Option V × S → Prop
  | (_, .non) => True
  | (v, .val d) => ∃ x, v = some x ∧ Fz F.G Φ x d
  | (v, .own o) => ∃ a, v = some (.ref a) ∧ Ow F.G Φ H a o ∧ Φ a = none ∧ F.H0 a = none
  | (v, .lent j o) => ∃ a, v = some (.ref a) ∧ Ow F.G Φ H a o ∧ Φ a = none ∧ F.P j = some a
  | (v, .ali i) => ∃ x s, v = some x ∧ σ[i]? = some (some x) ∧ τ[i]? = some s ∧ s.real
  | (v, .raw) => ∃ a, v = some (.ref a) ∧ F.raw = some a
def holds : Option V × S → Option Addr
  | (some (.ref a), .own _) => some a
  | (some (.ref a), .lent _ _) => some a
  | _ => none
/-- two that do not share what is ours -/
def Apart (p q : Option V × S) : Prop := ∀ a, holds p = some a → holds q ≠ some a
theorem Apart.symm {p q : Option V × S} (h : Apart p q) : Apart q p := fun a h1 h2 => h a h2 h1
def Subp {α : Type} (l m : List α) : Prop := ∃ k : List α, k.Perm l ∧ k.Sublist m
theorem Subp.of {α : Type} {l m : List α} (h : l.Sublist m) : Subp l m := ⟨l, .refl _, h⟩
theorem Subp.perm {α : Type} {l m : List α} (h : m.Perm l) : Subp l m := ⟨m, h, List.Sublist.refl _⟩
theorem Subp.cons' {α : Type} {l m : List α} {x : α} (h : Subp l m) : Subp l (x :: m) := by
  obtain ⟨k, p, q⟩ := h
  exact ⟨k, p, q.trans (List.sublist_cons_self _ _)⟩
theorem Subp.app' {α : Type} {l m k : List α} (h : Subp l m) : Subp l (k ++ m) := by
  obtain ⟨j, p, q⟩ := h
  exact ⟨j, p, q.trans (List.sublist_append_right _ _)⟩
def S.noali : S → Prop
  | .ali _ => False
  | _ => True
/-- no slot is another slot's name -/
def Flat (τ : List S) : Prop := ∀ s ∈ τ, s.noali
/-- slots, then what is in the air -/
abbrev both (σ : L2.St) (τ : List S) (tm : Env1) : Env1 := σ.zip τ ++ tm

/-- the tables of code objects, of which none is of the world -/
def TabsN (T : List (Addr × Str)) (Φ H : Hp) : Prop := LamX.Tabs T H ∧ ∀ b ps, Φ b ≠ some (.tbl ps)
structure Rl (F : Fm) (Φ H : Hp) (σ : L2.St) (τ : List S) (tm : Env1) : Prop where
  len : σ.length = τ.length
  fl : Flat τ
  le0 : Le F.Φ0 Φ
  le : Le Φ H
  pres : ∀ b o, F.H0 b = some o → (∀ j, F.P j ≠ some b) → (∀ ps, o ≠ .tbl ps) → H b = some o
  dom : ∀ b, H b = none → F.H0 b = none
  new : ∀ b o, Φ b = some o → F.Φ0 b = some o ∨ F.H0 b = none
  one : ∀ p ∈ both σ τ tm, One F Φ H σ τ p
  nd : (both σ τ tm).Pairwise Apart
  tabs : TabsN F.G.T Φ H

section
variable {F : Fm} {Φ Φ' H H' : Hp} {σ : L2.St} {τ : List S} {tm tm' : Env1}
theorem holds_some {p : Option V × S} {a : Addr} (h : holds p = some a) : p.1 = some (.ref a) ∧ ((∃ o, p.2 = .own o) ∨ ∃ j o, p.2 = .lent j o) := by
  obtain ⟨v, s⟩ := p
  cases s with
  | own o =>
    cases v with
    | none => cases h
    | some x =>
      cases x with
      | ref b => cases h; exact ⟨rfl, .inl ⟨o, rfl⟩⟩
      | _ => cases h
  | lent j o =>
    cases v with
    | none => cases h
    | some x =>
      cases x with
      | ref b => cases h; exact ⟨rfl, .inr ⟨j, o, rfl⟩⟩
      | _ => cases h
  | _ =>
    cases v with
    | none => cases h
    | some x => cases x <;> cases h
theorem Ow.there {G : Gx} {a : Addr} {o : O} (h : Ow G Φ H a o) : ∃ u, H a = some u ∧ (∀ ps, u ≠ .tbl ps) := by
  cases o with
  | lst xs => obtain ⟨vs, e, _⟩ := h; exact ⟨_, e, fun _ z => by cases z⟩
  | ins c fs => obtain ⟨C, dx, vs, e, _⟩ := h; exact ⟨_, e, fun _ z => by cases z⟩
theorem One.own {p : Option V × S} (h : One F Φ H σ τ p) {a : Addr} (e : holds p = some a) : Φ a = none ∧ ∃ o, Ow F.G Φ H a o := by
  obtain ⟨v, s⟩ := p
  obtain ⟨e1, e2⟩ := holds_some e
  simp only at e1 e2
  rcases e2 with ⟨o, rfl⟩ | ⟨j, o, rfl⟩
  · obtain ⟨b, e3, q1, q2, _⟩ := h
    rw [e1] at e3; cases e3
    exact ⟨q2, o, q1⟩
  · obtain ⟨b, e3, q1, q2, _⟩ := h
    rw [e1] at e3; cases e3
    exact ⟨q2, o, q1⟩
theorem Ow.step {G : Gx} {a : Addr} {o : O} (h : Ow G Φ H a o) (l : Le Φ Φ') (e : ∀ u, H a = some u → (∀ ps, u ≠ .tbl ps) → H' a = some u) : Ow G Φ' H' a o := by
  cases o with
  | lst xs =>
    obtain ⟨vs, e1, e2⟩ := h
    exact ⟨vs, e _ e1 (fun _ z => by cases z), FzL.le l e2⟩
  | ins c fs =>
    obtain ⟨C, dx, vs, e1, e2, e3⟩ := h
    exact ⟨C, dx, vs, e _ e1 (fun _ z => by cases z), e2, FzF.le l e3⟩
/-- all but tables kept -/
def Keep (H H' : Hp) : Prop := ∀ b o, H b = some o → (∀ ps, o ≠ .tbl ps) → H' b = some o
theorem Keep.of (h : ∀ b o, H b = some o → H' b = some o) : Keep H H' := fun b o e _ => h b o e
theorem keep_upd {p : Addr} {o : HO} (h : H p = none) : Keep H (upd H p o) := fun b u e _ => by
  rw [upd_ne (ne_of_none e h)]
  exact e
theorem le_upd {p : Addr} {o : HO} (h : H p = none) : Le H (upd H p o) := fun b u e => by
  rw [upd_ne (ne_of_none e h)]
  exact e
theorem One.step {p : Option V × S} (h : One F Φ H σ τ p) (l : Le Φ Φ') (k : ∀ a, holds p = some a → (∀ u, H a = some u → (∀ ps, u ≠ .tbl ps) → H' a = some u) ∧ Φ' a = none) : One F Φ' H' σ τ p := by
  obtain ⟨v, s⟩ := p
  cases s with
  | non => trivial
  | val d => obtain ⟨x, e, q⟩ := h; exact ⟨x, e, Fz.le l q⟩
  | own o =>
    obtain ⟨a, e, q1, q2, q3⟩ := h
    subst e
    obtain ⟨k1, k2⟩ := k a rfl
    exact ⟨a, rfl, q1.step l k1, k2, q3⟩
  | lent j o =>
    obtain ⟨a, e, q1, q2, q3⟩ := h
    subst e
    obtain ⟨k1, k2⟩ := k a rfl
    exact ⟨a, rfl, q1.step l k1, k2, q3⟩
  | ali i => exact h
  | raw => exact h
/-- the heap grows, the world grows by what is new -/
theorem Rl.grow (r : Rl F Φ H σ τ tm) (l : Le Φ Φ') (l' : Le Φ' H') (k : Keep H H') (n : ∀ b o, Φ' b = some o → Φ b = some o ∨ H b = none) (t : TabsN F.G.T Φ' H') (d : ∀ b, H' b = none → H b = none) : Rl F Φ' H' σ τ tm where
  len := r.len
  fl := r.fl
  le0 := r.le0.trans l
  le := l'
  pres := fun b o h1 h2 h3 => k _ _ (r.pres b o h1 h2 h3) h3
  dom := fun b h => r.dom b (d b h)
  new := fun b o h => by
    rcases n b o h with q | q
    · exact r.new b o q
    · exact .inr (r.dom b q)
  one := fun p hp => (r.one p hp).step l fun a ha => ⟨fun u e z => k _ _ e z, by
    obtain ⟨q1, o, q2⟩ := (r.one p hp).own ha
    obtain ⟨u, q3, _⟩ := q2.there
    cases e : Φ' a with
    | none => rfl
    | some w =>
      rcases n a w e with z | z
      · rw [q1] at z; cases z
      · rw [q3] at z; cases z⟩
  nd := r.nd
  tabs := t
theorem tabs_upd {T : List (Addr × Str)} {p : Addr} {o : HO} (t : LamX.Tabs T H) (h : H p = none) : LamX.Tabs T (upd H p o) := t.ext fun b u e => le_upd h b u e
theorem none_upd {p : Addr} {o : HO} : ∀ b, upd H p o b = none → H b = none := fun b h => by
  by_cases e : b = p
  · subst e; rw [upd_same] at h; cases h
  · rw [upd_ne e] at h; exact h
/-- a new object beside the world -/
theorem Rl.beside (r : Rl F Φ H σ τ tm) {p : Addr} {o : HO} (h : H p = none) : Rl F Φ (upd H p o) σ τ tm :=
  r.grow (Le.refl _) (r.le.trans (le_upd h)) (keep_upd h) (fun _ _ e => .inl e) ⟨tabs_upd r.tabs.1 h, r.tabs.2⟩ none_upd
theorem Rl.fre (r : Rl F Φ H σ τ tm) {p : Addr} (h : H p = none) : Φ p = none := by
  cases e : Φ p with
  | none => rfl
  | some o => rw [r.le _ _ e] at h; cases h
/-- a new object of the world -/
theorem Rl.within (r : Rl F Φ H σ τ tm) {p : Addr} {o : HO} (h : H p = none) (ho : ∀ ps, o ≠ .tbl ps := by intro ps h; cases h) : Rl F (upd Φ p o) (upd H p o) σ τ tm := by
  refine r.grow (le_upd (r.fre h)) (fun a u e => ?_) (keep_upd h) (fun b u e => ?_) ⟨tabs_upd r.tabs.1 h, fun b ps e => ?_⟩ none_upd
  · by_cases q : a = p
    · subst q; rw [upd_same] at e ⊢; exact e
    · rw [upd_ne q] at e ⊢; exact r.le _ _ e
  · by_cases q : b = p
    · subst q; exact .inr h
    · rw [upd_ne q] at e; exact .inl e
  · by_cases q : b = p
    · subst q; rw [upd_same] at e; exact ho ps (Option.some.inj e)
    · rw [upd_ne q] at e; exact r.tabs.2 b ps e
/-- what is in the air, otherwise arranged or less -/
theorem Rl.air (r : Rl F Φ H σ τ tm) (s : Subp tm' tm) : Rl F Φ H σ τ tm' := by
  have s2 : Subp (both σ τ tm') (both σ τ tm) := by
    obtain ⟨l, p, q⟩ := s
    exact ⟨σ.zip τ ++ l, p.append_left _, q.append_left _⟩
  obtain ⟨l, p, q⟩ := s2
  exact ⟨r.len, r.fl, r.le0, r.le, r.pres, r.dom, r.new, fun x hx => r.one x (q.subset (p.mem_iff.mpr hx)), (p.pairwise_iff (fun h => Apart.symm h)).mp (r.nd.sublist q), r.tabs⟩
theorem Rl.none' (r : Rl F Φ H σ τ tm) : Rl F Φ H σ τ [] := r.air (.of (List.nil_sublist _))
theorem Rl.tl {p : Option V × S} (r : Rl F Φ H σ τ (p :: tm)) : Rl F Φ H σ τ tm := r.air (.of (List.sublist_cons_self _ _))
theorem Rl.hd {p : Option V × S} (r : Rl F Φ H σ τ (p :: tm)) : One F Φ H σ τ p := r.one p (List.mem_append_right _ List.mem_cons_self)
/-- more in the air -/
theorem Rl.put (r : Rl F Φ H σ τ tm) {p : Option V × S} (h : One F Φ H σ τ p) (n : ∀ q ∈ both σ τ tm, Apart p q) : Rl F Φ H σ τ (p :: tm) := by
  have pm : (both σ τ (p :: tm)).Perm (p :: both σ τ tm) := List.perm_middle
  refine ⟨r.len, r.fl, r.le0, r.le, r.pres, r.dom, r.new, fun q hq => ?_, (pm.pairwise_iff fun h => Apart.symm h).mpr (List.pairwise_cons.mpr ⟨n, r.nd⟩), r.tabs⟩
  rcases List.mem_cons.mp (pm.mem_iff.mp hq) with e | hq
  · rw [e]; exact h
  · exact r.one q hq
theorem apart_none {p q : Option V × S} (h : holds p = none) : Apart p q := fun a e => by rw [h] at e; cases e
theorem holds_val {v : Option V} {d : D} : holds (v, .val d) = none := by cases v with
  | none => rfl
  | some x => cases x <;> rfl
theorem holds_ali {v : Option V} {i : Nat} : holds (v, .ali i) = none := by cases v with
  | none => rfl
  | some x => cases x <;> rfl
theorem holds_non {v : Option V} : holds (v, .non) = none := by cases v with
  | none => rfl
  | some x => cases x <;> rfl
theorem Rl.val (r : Rl F Φ H σ τ tm) {v : V} {d : D} (h : Fz F.G Φ v d) : Rl F Φ H σ τ ((some v, .val d) :: tm) := r.put (p := (some v, .val d)) ⟨v, rfl, h⟩ fun _ _ => apart_none holds_val
/-- a new list of ours -/
theorem Rl.mine (r : Rl F Φ H σ τ tm) {p : Addr} {vs : List V} {ds : List D} (h : H p = none) (q : FzL F.G Φ vs ds) : Rl F Φ (upd H p (.lst vs)) σ τ ((some (.ref p), .own (.lst ds)) :: tm) := by
  refine (r.beside h).put (p := (some (.ref p), .own (.lst ds))) ⟨p, rfl, ⟨vs, upd_same, q⟩, r.fre h, r.dom _ h⟩ fun e he a ha hq => ?_
  cases ha
  obtain ⟨_, o, q2⟩ := (r.one e he).own hq
  obtain ⟨u, q3, _⟩ := q2.there
  rw [h] at q3; cases q3
/-- a new tuple of the world -/
theorem Rl.tuple (r : Rl F Φ H σ τ tm) {p : Addr} {vs : List V} {ds : List D} (h : H p = none) (q : FzL F.G Φ vs ds) : Rl F (upd Φ p (.tup vs)) (upd H p (.tup vs)) σ τ ((some (.ref p), .val (.tup ds)) :: tm) :=
  (r.within h).val (.tup (.inl (.inl upd_same)) (FzL.le (le_upd (r.fre h)) q))

theorem zip_set {α β : Type} : ∀ {l : List α} {m : List β} {i : Nat} {x : α} {y : β}, (l.set i x).zip (m.set i y) = (l.zip m).set i (x, y)
  | [], _, _, _, _ => by simp
  | _ :: _, [], _, _, _ => by simp
  | _ :: _, _ :: _, 0, _, _ => rfl
  | a :: l, b :: m, i + 1, x, y => by
    show (a, b) :: (l.set i x).zip (m.set i y) = (a, b) :: (l.zip m).set i (x, y)
    rw [zip_set]
theorem pw_set {α : Type} {Rr : α → α → Prop} (sy : ∀ {a b}, Rr a b → Rr b a) {p : α} : ∀ {l : List α} {i : Nat}, (p :: l).Pairwise Rr → (l.set i p).Pairwise Rr
  | [], _, _ => List.Pairwise.nil
  | q :: l, 0, h => by
    obtain ⟨h1, h2⟩ := List.pairwise_cons.mp h
    exact List.pairwise_cons.mpr ⟨fun x hx => h1 x (List.mem_cons_of_mem _ hx), (List.pairwise_cons.mp h2).2⟩
  | q :: l, i + 1, h => by
    obtain ⟨h1, h2⟩ := List.pairwise_cons.mp h
    obtain ⟨h3, h4⟩ := List.pairwise_cons.mp h2
    refine List.pairwise_cons.mpr ⟨fun x hx => ?_, pw_set sy (List.pairwise_cons.mpr ⟨fun x hx => h1 x (List.mem_cons_of_mem _ hx), h4⟩)⟩
    rcases List.mem_or_eq_of_mem_set hx with e | e
    · exact h3 x e
    · rw [e]; exact sy (h1 q List.mem_cons_self)
theorem One.slots {σ' : L2.St} {τ' : List S} {p : Option V × S} (h : One F Φ H σ τ p) (n : p.2.noali) : One F Φ H σ' τ' p := by
  obtain ⟨v, s⟩ := p
  cases s with
  | ali i => exact n.elim
  | _ => exact h
theorem Flat.set (fl : Flat τ) {s : S} (n : s.noali) (i : Nat) : Flat (τ.set i s) := fun x hx => by
  rcases List.mem_or_eq_of_mem_set hx with e | e
  · exact fl x e
  · rw [e]; exact n
/-- a slot takes what is in the air -/
theorem Rl.store {v : V} {s : S} (r : Rl F Φ H σ τ ((some v, s) :: tm)) (n : s.noali) (nt : ∀ p ∈ tm, p.2.noali) (i : Nat) : Rl F Φ H (σ.set i (some v)) (τ.set i s) tm := by
  have pm : (both σ τ ((some v, s) :: tm)).Perm ((some v, s) :: (σ.zip τ ++ tm)) := List.perm_middle
  have pw := (pm.pairwise_iff fun h => Apart.symm h).mp r.nd
  have sz : both (σ.set i (some v)) (τ.set i s) tm = (σ.zip τ).set i (some v, s) ++ tm := by rw [both, zip_set]
  refine ⟨by rw [List.length_set, List.length_set, r.len], r.fl.set n i, r.le0, r.le, r.pres, r.dom, r.new, fun p hp => ?_, ?_, r.tabs⟩
  · rw [sz] at hp
    rcases List.mem_append.mp hp with hp | hp
    · rcases List.mem_or_eq_of_mem_set hp with e | e
      · exact (r.one p (List.mem_append_left _ e)).slots (r.fl _ (List.of_mem_zip e).2)
      · rw [e]
        exact (r.hd).slots n
    · exact (r.tl.one p (List.mem_append_right _ hp)).slots (nt p hp)
  · rw [sz]
    by_cases hi : i < (σ.zip τ).length
    · have e : (σ.zip τ).set i (some v, s) ++ tm = (σ.zip τ ++ tm).set i (some v, s) := (List.set_append_left _ _ hi).symm
      rw [e]
      exact pw_set (fun h => Apart.symm h) pw
    · rw [List.set_eq_of_length_le (by omega)]
      exact (List.pairwise_cons.mp pw).2
/-- the slot i and what it holds -/
theorem Rl.at (r : Rl F Φ H σ τ tm) {i : Nat} {s : S} (h : τ[i]? = some s) : ∃ v, σ[i]? = some v ∧ (v, s) ∈ σ.zip τ ∧ One F Φ H σ τ (v, s) := by
  have hi : i < τ.length := (List.getElem?_eq_some_iff.mp h).1
  have hs : i < σ.length := by rw [r.len]; exact hi
  have e : (σ.zip τ)[i]? = some (σ[i], s) := by
    rw [List.getElem?_zip_eq_some]
    exact ⟨List.getElem?_eq_getElem hs, h⟩
  have m := List.mem_of_getElem? e
  exact ⟨σ[i], List.getElem?_eq_getElem hs, m, r.one _ (List.mem_append_left _ m)⟩
end
end Mi

/-! ### M2: mirrored code and what it says of the code: expressions -/
namespace Mi
open PySem PySem.Spec PyProof.Rows L2

abbrev M.ret {α : Type} (a : α) : M α := fun τ => .ok (a, τ)
def M.bnd {α β : Type} (m : M α) (f : α → M β) : M β := fun τ => match m τ with
  | .ok (a, τ') => f a τ'
  | .exc c fs τ' => .exc c fs τ'
  | .stuck => .stuck
def M.of {α : Type} (o : Option α) : M α := fun τ => match o with
  | some a => .ok (a, τ)
  | none => .stuck

/-- an exception as it lies: its class, its own dict -/
def ExR (F : Fm) (Φ H : Hp) (cls : Value) (d : Option Addr) (c : Str) (fs : List (Str × D)) : Prop :=
  ∃ C, F.G.cls c = some C ∧ cls = .ref C ∧ ((d = none ∧ fs = []) ∨ ∃ dd vs, d = some dd ∧ Φ dd = some (.xd vs) ∧ FzF F.G Φ vs fs)
/-- what an outcome asks -/
def Wp {α : Type} (F : Fm) (W : WX) (tm : Env1) (r : R (α × List S)) (K : α → List S → Prop) : Prop := match r with
  | .ok (a, τ) => K a τ
  | .exc c fs τ => ∀ cls d σ H Φ, Rl F Φ H σ τ tm → ExR F Φ H cls d c fs → W cls d σ H
  | .stuck => False
theorem bnd_ok {α β : Type} {m : M α} {f : α → M β} {τ : List S} {r : β × List S} (h : M.bnd m f τ = .ok r) : ∃ a τ1, m τ = .ok (a, τ1) ∧ f a τ1 = .ok r := by
  unfold M.bnd at h
  cases e : m τ with
  | ok p => rw [e] at h; exact ⟨p.1, p.2, rfl, h⟩
  | exc c fs t => rw [e] at h; cases h
  | stuck => rw [e] at h; cases h
theorem ok_bnd {α β : Type} {m : M α} {f : α → M β} {τ τ1 : List S} {a : α} (h : m τ = .ok (a, τ1)) : M.bnd m f τ = f a τ1 := by
  unfold M.bnd
  rw [h]
section
variable {F : Fm} {W : WX} {tm tm' : Env1} {α β : Type}
theorem Wp.bnd {m : M α} {f : α → M β} {τ : List S} {K : β → List S → Prop} (h : Wp F W tm (M.bnd m f τ) K) : Wp F W tm (m τ) fun a τ' => Wp F W tm (f a τ') K := by
  unfold M.bnd at h
  unfold Wp at h ⊢
  split <;> rename_i e
  · rw [e] at h
    exact h
  · rw [e] at h
    exact h
  · rw [e] at h
    exact h
theorem Wp.mono {r : R (α × List S)} {K K' : α → List S → Prop} (h : Wp F W tm r K) (k : ∀ a τ, K a τ → K' a τ) : Wp F W tm r K' := by
  cases r with
  | ok p => exact k _ _ h
  | exc c fs t => exact h
  | stuck => exact h
theorem Wp.air {r : R (α × List S)} {K : α → List S → Prop} (h : Wp F W tm r K) (s : Subp tm tm') : Wp F W tm' r K := by
  cases r with
  | ok p => exact h
  | exc c fs t => exact fun cls d σ H Φ r x => h cls d σ H Φ (r.air s) x
  | stuck => exact h
theorem Wp.of {o : Option α} {τ : List S} {K : α → List S → Prop} (h : Wp F W tm (M.of o τ) K) : ∃ a, o = some a ∧ K a τ := by
  cases o with
  | none => exact h.elim
  | some a => exact ⟨a, rfl, h⟩
end

/-- what mirrored expressions, tests, argument lists ask -/
def TEm (F : Fm) (W : WX) (m : M S) : L2.TE := fun σ H Q => ∃ Φ τ tm, Rl F Φ H σ τ tm ∧ Wp F W tm (m τ) fun s τ' => ∀ v H' Φ', Rl F Φ' H' σ τ' ((some v, s) :: tm) → Q v H'
def TBm (F : Fm) (W : WX) (m : M Bool) : L2.TT := fun σ H Q => ∃ Φ τ tm, Rl F Φ H σ τ tm ∧ Wp F W tm (m τ) fun b τ' => ∀ H' Φ', Rl F Φ' H' σ τ' tm → Q b H'
def TLm (F : Fm) (W : WX) (m : M (List S)) : L2.TA := fun σ H Q => ∃ Φ τ tm, Rl F Φ H σ τ tm ∧ Wp F W tm (m τ) fun ss τ' => ∀ vs H' Φ', vs.length = ss.length → Rl F Φ' H' σ τ' ((vs.map some).zip ss ++ tm) → Q vs H'
/-- the context fits the frame -/
structure Fits (X : Cx) (F : Fm) (W : WX) : Prop where
  calm : X.calm = true
  nd : X.N.Nodup
  K : X.K = F.G.K
  tk : Takes X W
  own : PassesOwn (model X.prog X.w) X.A X.env X.xe
abbrev EM (X : Cx) (F : Fm) (W : WX) (e : Expr) (m : M S) : Prop := PE X e (TEm F W m)
abbrev BM (X : Cx) (F : Fm) (W : WX) (e : Expr) (m : M Bool) : Prop := PT X e (TBm F W m)
abbrev WM (X : Cx) (F : Fm) (W : WX) (e : Expr) (m : M Bool) : Prop := PW X e (TBm F W m)
abbrev LM (X : Cx) (F : Fm) (W : WX) (es : List Expr) (m : M (List S)) : Prop := PA X es (TLm F W m)

theorem PE.imp {X : Cx} {e : Expr} {t t' : L2.TE} (h : PE X e t) (i : ∀ σ H Q, t' σ H Q → t σ H Q) : PE X e t' := ⟨fun pins s σ H Q I q => h.run pins s σ H Q I (i _ _ _ q)⟩
theorem PT.imp {X : Cx} {e : Expr} {t t' : L2.TT} (h : PT X e t) (i : ∀ σ H Q, t' σ H Q → t σ H Q) : PT X e t' := ⟨fun pins s σ H Q I q => h.run pins s σ H Q I (i _ _ _ q)⟩
theorem PW.imp {X : Cx} {e : Expr} {t t' : L2.TT} (h : PW X e t) (i : ∀ σ H Q, t' σ H Q → t σ H Q) : PW X e t' := ⟨fun wh pins s σ H Q I q => h.run wh pins s σ H Q I (i _ _ _ q)⟩
theorem PA.imp {X : Cx} {e : List Expr} {t t' : L2.TA} (h : PA X e t) (i : ∀ σ H Q, t' σ H Q → t σ H Q) : PA X e t' := ⟨fun pos pins s σ H Q I q => h.run pos pins s σ H Q I (i _ _ _ q)⟩
theorem PS.imp {X : Cx} {e : Stmt} {t t' : L2.TS} (h : PS X e t) (i : ∀ D σ H, t' D σ H → t D σ H) : PS X e t' := ⟨fun pins s σ H D I q => h.run pins s σ H D I (i _ _ _ q)⟩
theorem PSs.imp {X : Cx} {e : List Stmt} {t t' : L2.TS} (h : PSs X e t) (i : ∀ D σ H, t' D σ H → t D σ H) : PSs X e t' := ⟨fun pins s σ H D I q => h.run pins s σ H D I (i _ _ _ q)⟩

/-! ### reading without taking -/
/-- v reads as d -/
def Rdv (F : Fm) (Φ H : Hp) (v : V) (d : D) : Prop := Fz F.G Φ v d ∨ ∃ a o, v = .ref a ∧ d = O.frz o ∧ Ow F.G Φ H a o
def peekS (τ : List S) : S → Option D
  | .val d => some d
  | .own o => some o.frz
  | .ali i => match τ[i]? with
    | some (.val d) => some d
    | some (.own o) => some o.frz
    | some (.lent _ o) => some o.frz
    | _ => none
  | _ => none
def peek (s : S) : M D := fun τ => match peekS τ s with
  | some d => .ok (d, τ)
  | none => .stuck
section
variable {F : Fm} {W : WX} {Φ Φ' H H' : Hp} {σ : L2.St} {τ : List S} {tm : Env1}
theorem Rl.peek (r : Rl F Φ H σ τ tm) {v : V} {s : S} {d : D} (h : One F Φ H σ τ (some v, s)) (e : peekS τ s = some d) : Rdv F Φ H v d := by
  cases s with
  | raw => cases e
  | non => cases e
  | val d' =>
    cases e
    obtain ⟨x, e1, q⟩ := h
    cases e1
    exact .inl q
  | own o =>
    cases e
    obtain ⟨a, e1, q, _⟩ := h
    cases e1
    exact .inr ⟨a, o, rfl, rfl, q⟩
  | lent j o => cases e
  | ali i =>
    obtain ⟨x, s', e1, e2, e3, _⟩ := h
    cases e1
    simp only [peekS, e3] at e
    obtain ⟨w, e4, _, q⟩ := r.at e3
    rw [e2] at e4
    cases e4
    cases s' with
    | raw => cases e
    | non => cases e
    | val d' =>
      cases e
      obtain ⟨y, e5, q⟩ := q
      cases e5
      exact .inl q
    | own o =>
      cases e
      obtain ⟨a, e5, q, _⟩ := q
      cases e5
      exact .inr ⟨a, o, rfl, rfl, q⟩
    | lent j o =>
      cases e
      obtain ⟨a, e5, q, _⟩ := q
      cases e5
      exact .inr ⟨a, o, rfl, rfl, q⟩
    | ali k => cases e
theorem Wp.peek {s : S} {K : D → List S → Prop} (h : Wp F W tm (peek s τ) K) : ∃ d, peekS τ s = some d ∧ K d τ := by
  unfold Mi.peek at h
  cases e : peekS τ s with
  | none => rw [e] at h; exact h.elim
  | some d => rw [e] at h; exact ⟨d, rfl, h⟩
/-- plain ones -/
theorem Rdv.int {v : V} {i : Int} (h : Rdv F Φ H v (.int i)) : v = .int i := by
  rcases h with h | ⟨a, o, _, e, _⟩
  · cases h; rfl
  · cases o <;> cases e
theorem Rdv.bl {v : V} {i : Bool} (h : Rdv F Φ H v (.bl i)) : v = .bl i := by
  rcases h with h | ⟨a, o, _, e, _⟩
  · cases h; rfl
  · cases o <;> cases e
theorem Rdv.str {v : V} {i : Str} (h : Rdv F Φ H v (.str i)) : v = .str i := by
  rcases h with h | ⟨a, o, _, e, _⟩
  · cases h; rfl
  · cases o <;> cases e
theorem Rdv.non {v : V} (h : Rdv F Φ H v .non) : v = .non := by
  rcases h with h | ⟨a, o, _, e, _⟩
  · cases h; rfl
  · cases o <;> cases e
theorem Rdv.lst (l : Le Φ H) {v : V} {xs : List D} (h : Rdv F Φ H v (.lst xs)) : ∃ a vs, v = .ref a ∧ H a = some (.lst vs) ∧ FzL F.G Φ vs xs := by
  rcases h with h | ⟨a, o, e1, e, q⟩
  · cases h with
    | lst h t => exact ⟨_, _, rfl, l _ _ h, t⟩
  · cases o with
    | lst ys =>
      cases e
      obtain ⟨vs, q1, q2⟩ := q
      exact ⟨a, vs, e1, q1, q2⟩
    | ins c fs => cases e
theorem Rdv.scr (l : Le Φ H) {v : V} {xs : List D} (h : Rdv F Φ H v (.scr xs)) : ∃ a vs, v = .ref a ∧ SqL F.G.K H a vs ∧ FzL F.G Φ vs xs := by
  rcases h with h | ⟨a, o, _, e, _⟩
  · cases h with
    | scr h t => exact ⟨_, _, rfl, SqL.le h l, t⟩
  · cases o <;> cases e
theorem Rdv.tup (l : Le Φ H) {v : V} {xs : List D} (h : Rdv F Φ H v (.tup xs)) : ∃ a vs, v = .ref a ∧ SqT F.G.K H a vs ∧ FzL F.G Φ vs xs := by
  rcases h with h | ⟨a, o, _, e, _⟩
  · cases h with
    | tup h t => exact ⟨_, _, rfl, SqT.le h l, t⟩
  · cases o <;> cases e
theorem Rdv.ins (l : Le Φ H) {v : V} {c : Str} {fs : List (Str × D)} (h : Rdv F Φ H v (.ins c fs)) : ∃ a C dx vs, v = .ref a ∧ H a = some (.ins C dx vs) ∧ F.G.cls c = some C ∧ FzF F.G Φ vs fs := by
  rcases h with h | ⟨a, o, e1, e, q⟩
  · cases h with
    | ins h c t => exact ⟨_, _, _, _, rfl, l _ _ h, c, t⟩
  · cases o with
    | lst ys => cases e
    | ins c' fs' =>
      cases e
      obtain ⟨C, dx, vs, q1, q2, q3⟩ := q
      exact ⟨a, C, dx, vs, e1, q1, q2, q3⟩
end

/-! ### taking -/
/-- a value that anyone may keep: what is ours is ours no more -/
def take (s : S) : M D := fun τ => match s with
  | .val d => .ok (d, τ)
  | .own o => .ok (o.frz, τ)
  | .ali i => match τ[i]? with
    | some (.val d) => .ok (d, τ)
    | some (.own o) => .ok (o.frz, τ.set i (.val o.frz))
    | _ => .stuck
  | _ => .stuck
def takeAll : List S → M (List D)
  | [] => M.ret []
  | s :: ss => M.bnd (take s) fun d => M.bnd (takeAll ss) fun ds => M.ret (d :: ds)
section
variable {F : Fm} {W : WX} {Φ Φ' H H' : Hp} {σ : L2.St} {τ τ' : List S} {tm : Env1}
/-- what is ours alone joins the world -/
theorem Ow.fz {G : Gx} {a : Addr} {o : O} (h : Ow G Φ H a o) (l : Le Φ Φ') (e : Φ' a = H a) : Fz G Φ' (.ref a) o.frz := by
  cases o with
  | lst xs =>
    obtain ⟨vs, q1, q2⟩ := h
    exact .lst (e.trans q1) (FzL.le l q2)
  | ins c fs =>
    obtain ⟨C, dx, vs, q1, q2, q3⟩ := h
    exact .ins (e.trans q1) q2 (FzF.le l q3)
/-- the world with a -/
def with1 (Φ H : Hp) (a : Addr) : Hp := fun b => if b = a then H b else Φ b
theorem with1_at {a : Addr} : with1 Φ H a a = H a := if_pos rfl
theorem with1_ne {a b : Addr} (h : b ≠ a) : with1 Φ H a b = Φ b := if_neg h
theorem with1_le {a : Addr} (h : Φ a = none) : Le Φ (with1 Φ H a) := fun b o e => by
  rw [with1_ne]
  · exact e
  · intro q; rw [q, h] at e; cases e
/-- everything but p stands when p joins the world -/
theorem One.join {a : Addr} {p : Option V × S} (hp : One F Φ H σ τ p) (h : Φ a = none) (ap : holds p ≠ some a) : One F (with1 Φ H a) H σ τ p :=
  hp.step (with1_le h) fun b hb => ⟨fun u e _ => e, by
    rw [with1_ne (fun q => ap (by rw [← q]; exact hb))]
    exact (hp.own hb).1⟩
theorem join_le {a : Addr} (l : Le Φ H) : Le (with1 Φ H a) H := fun b o e => by
  by_cases q : b = a
  · subst q; rw [with1_at] at e; exact e
  · rw [with1_ne q] at e; exact l _ _ e
theorem with1_tabs {T : List (Addr × Str)} {G : Gx} {a : Addr} {o : O} (t : TabsN T Φ H) (w : Ow G Φ H a o) : TabsN T (with1 Φ H a) H := ⟨t.1, fun b ps e => by
  by_cases q : b = a
  · subst q
    rw [with1_at] at e
    obtain ⟨u, e1, e2⟩ := w.there
    rw [e1] at e
    exact e2 ps (Option.some.inj e)
  · rw [with1_ne q] at e; exact t.2 b ps e⟩
theorem Rl.taken (r : Rl F Φ H σ τ ((some v, s) :: tm)) {d : D} (e : take s τ = .ok (d, τ')) : ∃ Φ', Rl F Φ' H σ τ' ((some v, .val d) :: tm) := by
  cases s with
  | raw => cases e
  | non => cases e
  | val d' =>
    cases e
    exact ⟨Φ, r⟩
  | lent j o => cases e
  | own o =>
    cases e
    obtain ⟨a, e1, q1, q2, q3⟩ := r.hd
    cases e1
    refine ⟨with1 Φ H a, ?_⟩
    have pm : (both σ τ ((some (.ref a), .own o) :: tm)).Perm ((some (.ref a), .own o) :: both σ τ tm) := List.perm_middle
    obtain ⟨n1, n2⟩ := List.pairwise_cons.mp ((pm.pairwise_iff fun h => Apart.symm h).mp r.nd)
    have base : Rl F (with1 Φ H a) H σ τ tm := ⟨r.len, r.fl, r.le0.trans (with1_le q2), join_le r.le, r.pres, r.dom, fun b o h => by
      by_cases q : b = a
      · subst q; exact .inr q3
      · rw [with1_ne q] at h; exact r.new b o h, fun p hp => (r.one p (pm.mem_iff.mpr (List.mem_cons_of_mem _ hp))).join q2 (n1 p hp a rfl), n2, with1_tabs r.tabs q1⟩
    exact base.val (q1.fz (with1_le q2) with1_at)
  | ali i =>
    obtain ⟨x, s', e1, e2, e3, _⟩ := r.hd
    cases e1
    unfold take at e
    simp only [e3] at e
    obtain ⟨w, e4, em, q⟩ := r.at e3
    rw [e2] at e4
    cases e4
    cases s' with
    | raw => cases e
    | non => cases e
    | lent j o => cases e
    | ali k => cases e
    | val d' =>
      cases e
      obtain ⟨y, e5, q⟩ := q
      cases e5
      exact ⟨Φ, r.tl.val q⟩
    | own o =>
      cases e
      obtain ⟨a, e5, q1, q2, q3⟩ := q
      cases e5
      refine ⟨with1 Φ H a, ?_⟩
      -- the slot, changed
      have hi : i < τ.length := (List.getElem?_eq_some_iff.mp e3).1
      have hs : σ.set i (some (V.ref a)) = σ := by
        apply List.ext_getElem?
        intro j
        by_cases hj : i = j
        · subst hj
          rw [List.getElem?_set_self (by rw [r.len]; exact hi)]
          exact e2.symm
        · rw [List.getElem?_set_ne hj]
      have hz : σ.zip (τ.set i (.val o.frz)) = (σ.zip τ).set i (some (.ref a), .val o.frz) := by
        rw [← zip_set, hs]
      have rt := r.tl
      have ix : (σ.zip τ)[i]? = some (some (.ref a), .own o) := by
        rw [List.getElem?_zip_eq_some]
        exact ⟨e2, e3⟩
      have hit : i < (σ.zip τ).length := (List.getElem?_eq_some_iff.mp ix).1
      -- all others are apart from it
      have ap : ∀ (j : Nat) p, (both σ τ tm)[j]? = some p → j ≠ i → holds p ≠ some a := fun j p hj ne => by
        have pw := List.pairwise_iff_getElem.mp rt.nd
        have ei : (both σ τ tm)[i]? = some (some (.ref a), .own o) := by
          rw [List.getElem?_append_left hit]; exact ix
        obtain ⟨li, gi⟩ := List.getElem?_eq_some_iff.mp ei
        obtain ⟨lj, gj⟩ := List.getElem?_eq_some_iff.mp hj
        intro hp
        rcases Nat.lt_or_gt_of_ne ne with l | l
        · have := pw j i lj li l
          rw [gi, gj] at this
          exact this a hp rfl
        · have := pw i j li lj l
          rw [gi, gj] at this
          exact this a rfl hp
      have sz : both σ (τ.set i (.val o.frz)) tm = (both σ τ tm).set i (some (.ref a), .val o.frz) := by
        show σ.zip (τ.set i (.val o.frz)) ++ tm = (σ.zip τ ++ tm).set i _
        rw [hz, List.set_append_left _ _ hit]
      have vfz : Fz F.G (with1 Φ H a) (.ref a) o.frz := q1.fz (with1_le q2) with1_at
      have ones : ∀ p ∈ both σ (τ.set i (.val o.frz)) tm, One F (with1 Φ H a) H σ (τ.set i (.val o.frz)) p := fun p hp => by
        rw [sz] at hp
        obtain ⟨j, lj, gj⟩ := List.getElem_of_mem hp
        rw [List.length_set] at lj
        by_cases hj : i = j
        · subst hj
          rw [List.getElem_set_self] at gj
          rw [← gj]
          exact ⟨_, rfl, vfz⟩
        · rw [List.getElem_set_ne hj] at gj
          have gj' : (both σ τ tm)[j]? = some p := by rw [List.getElem?_eq_getElem lj, gj]
          have o1 := (rt.one p (by rw [← gj]; exact List.getElem_mem _)).join (a := a) q2 (ap j p gj' (Ne.symm hj))
          obtain ⟨pv, ps⟩ := p
          cases ps with
          | ali k =>
            obtain ⟨x, s2, f1, f2, f3, f4⟩ := o1
            by_cases hk : i = k
            · subst hk
              refine ⟨x, .val o.frz, f1, f2, ?_, trivial⟩
              rw [List.getElem?_set_self hi]
            · exact ⟨x, s2, f1, f2, by rw [List.getElem?_set_ne hk]; exact f3, f4⟩
          | raw => exact o1
          | non => exact o1
          | val _ => exact o1
          | own _ => exact o1
          | lent _ _ => exact o1
      have pwn : (both σ (τ.set i (.val o.frz)) tm).Pairwise Apart := by
        rw [sz]
        exact pw_set (fun h => Apart.symm h) (List.pairwise_cons.mpr ⟨fun _ _ => apart_none holds_val, rt.nd⟩)
      have base : Rl F (with1 Φ H a) H σ (τ.set i (.val o.frz)) tm := ⟨by rw [List.length_set]; exact r.len, r.fl.set (s := .val o.frz) trivial i, r.le0.trans (with1_le q2), join_le r.le, r.pres, r.dom, fun b o h => by
        by_cases q : b = a
        · subst q; exact .inr q3
        · rw [with1_ne q] at h; exact r.new b o h, ones, pwn, with1_tabs r.tabs q1⟩
      exact base.val vfz
theorem take_cases {s : S} {K : D → List S → Prop} (h : Wp F W tm (take s τ) K) : ∃ d τ', take s τ = .ok (d, τ') ∧ K d τ' := by
  cases e : take s τ with
  | ok p => rw [e] at h; exact ⟨p.1, p.2, rfl, h⟩
  | stuck => rw [e] at h; exact h.elim
  | exc c fs t =>
    exfalso
    unfold take at e
    split at e <;> (first | (cases e; done) | (split at e <;> cases e))
/-- all of a list are taken -/
theorem Rl.takenAll : ∀ {ss : List S} {vs : List V} {Φ : Hp} {τ τ' : List S} {tm : Env1} {ds : List D}, vs.length = ss.length → Rl F Φ H σ τ ((vs.map some).zip ss ++ tm) → takeAll ss τ = .ok (ds, τ') → ∃ Φ', Rl F Φ' H σ τ' tm ∧ FzL F.G Φ' vs ds
  | [], [], Φ, τ, τ', tm, ds, _, r, e => by
    cases e
    exact ⟨Φ, r, .nil⟩
  | s :: ss, v :: vs, Φ, τ, τ', tm, ds, l, r, e => by
    obtain ⟨d, τ1, e1, e⟩ := bnd_ok e
    obtain ⟨ds', τ2, e2, e⟩ := bnd_ok e
    cases e
    obtain ⟨Φ1, r1⟩ := Rl.taken r e1
    have r2 : Rl F Φ1 H σ τ1 ((vs.map some).zip ss ++ ((some v, .val d) :: tm)) := r1.air (.perm (by
      show ((some v, S.val d) :: ((vs.map some).zip ss ++ tm)).Perm _
      exact List.perm_middle.symm))
    obtain ⟨Φ2, r3, q⟩ := Rl.takenAll (by simpa using l) r2 e2
    obtain ⟨x, e3, q3⟩ := r3.hd
    cases e3
    exact ⟨Φ2, r3.tl, .cons q3 q⟩
theorem takeAll_cases : ∀ {ss : List S} {τ : List S} {K : List D → List S → Prop}, Wp F W tm (takeAll ss τ) K → ∃ ds τ', takeAll ss τ = .ok (ds, τ') ∧ K ds τ'
  | [], τ, K, h => ⟨[], τ, rfl, h⟩
  | s :: ss, τ, K, h => by
    obtain ⟨d, τ1, e1, h1⟩ := take_cases h.bnd
    obtain ⟨ds, τ2, e2, h2⟩ := takeAll_cases h1.bnd
    exact ⟨d :: ds, τ2, (ok_bnd e1).trans ((ok_bnd e2).trans rfl), h2⟩
end
end Mi

/-! ### M3: rules for expressions -/
namespace Mi
open PySem PySem.Spec PyProof.Rows L2
section
variable {X : Cx} {F : Fm} {W : WX} {Φ Φ' H H' : Hp} {σ : L2.St} {τ τ' : List S} {tm : Env1}

theorem te_go {Q : VK} {ma : M S} {tm0 : Env1} {P : S → List S → Prop} (r : Rl F Φ H σ τ tm) (h : Wp F W tm0 (ma τ) P) (k : ∀ s τ1 v H1 Φ1, P s τ1 → Rl F Φ1 H1 σ τ1 ((some v, s) :: tm) → Q v H1) (sub : Subp tm0 tm := by repeat (first | exact Subp.of (List.Sublist.refl _) | apply Subp.cons' | apply Subp.app')) : TEm F W ma σ H Q :=
  ⟨Φ, τ, tm, r, (h.air sub).mono fun s τ1 p v H1 Φ1 r1 => k s τ1 v H1 Φ1 p r1⟩
theorem tb_go {Q : Bool → Hp → Prop} {ma : M Bool} {tm0 : Env1} {P : Bool → List S → Prop} (r : Rl F Φ H σ τ tm) (h : Wp F W tm0 (ma τ) P) (k : ∀ b τ1 H1 Φ1, P b τ1 → Rl F Φ1 H1 σ τ1 tm → Q b H1) (sub : Subp tm0 tm := by repeat (first | exact Subp.of (List.Sublist.refl _) | apply Subp.cons' | apply Subp.app')) : TBm F W ma σ H Q :=
  ⟨Φ, τ, tm, r, (h.air sub).mono fun s τ1 p H1 Φ1 r1 => k s τ1 H1 Φ1 p r1⟩
theorem tl_go {Q : List V → Hp → Prop} {ma : M (List S)} {tm0 : Env1} {P : List S → List S → Prop} (r : Rl F Φ H σ τ tm) (h : Wp F W tm0 (ma τ) P) (k : ∀ ss τ1 vs H1 Φ1, P ss τ1 → vs.length = ss.length → Rl F Φ1 H1 σ τ1 ((vs.map some).zip ss ++ tm) → Q vs H1) (sub : Subp tm0 tm := by repeat (first | exact Subp.of (List.Sublist.refl _) | apply Subp.cons' | apply Subp.app')) : TLm F W ma σ H Q :=
  ⟨Φ, τ, tm, r, (h.air sub).mono fun s τ1 p vs H1 Φ1 l r1 => k s τ1 vs H1 Φ1 p l r1⟩

/-! #### constants, names -/
def eLit (d : D) : M S := M.ret (.val d)
theorem em_int {i j pos} : EM X F W (.Constant (.int i) j pos) (eLit (.int i)) := PE.imp pe_int fun σ H Q ⟨Φ, τ, tm, r, h⟩ => h _ _ _ (r.val (.int i))
theorem em_bl {b j pos} : EM X F W (.Constant (.bool b) j pos) (eLit (.bl b)) := PE.imp pe_bl fun σ H Q ⟨Φ, τ, tm, r, h⟩ => h _ _ _ (r.val (.bl b))
theorem em_non {j pos} : EM X F W (.Constant .none j pos) (eLit .non) := PE.imp pe_non fun σ H Q ⟨Φ, τ, tm, r, h⟩ => h _ _ _ (r.val .non)
theorem em_str {x j pos} : EM X F W (.Constant (.str x) j pos) (eLit (.str x)) := PE.imp pe_str fun σ H Q ⟨Φ, τ, tm, r, h⟩ => h _ _ _ (r.val (.str x))
def eVar (i : Nat) : M S := fun τ => match τ[i]? with
  | some (.val d) => .ok (.val d, τ)
  | some (.own _) => .ok (.ali i, τ)
  | some (.lent _ _) => .ok (.ali i, τ)
  | _ => .stuck
theorem em_var (i : Nat) {x : Str} {pos : Pos} (hN : X.N[i]? = some x := by rfl) (hv : Vis X.env.scope x := by first | exact Or.inl rfl | exact Or.inr (Or.inl rfl) | exact Or.inr (Or.inr rfl)) (hd : (x == ("__debug__" : Str)) = false := by decide)
    (hcd : (x == ("__classdict__" : Str)) = false := by decide) : EM X F W (.Name x pos) (eVar i) := by
  refine PE.imp (pe_var hN hv hd hcd) fun σ H Q ⟨Φ, τ, tm, r, h⟩ => ?_
  unfold eVar at h
  cases e : τ[i]? with
  | none => rw [e] at h; exact h.elim
  | some s =>
    rw [e] at h
    obtain ⟨v, e1, em, o⟩ := r.at e
    cases s with
    | raw => exact h.elim
    | non => exact h.elim
    | ali k => exact h.elim
    | val d =>
      obtain ⟨x, e2, q⟩ := o
      subst e2
      exact ⟨x, e1, h x H Φ (r.val q)⟩
    | own o' =>
      obtain ⟨a, e2, q⟩ := o
      subst e2
      exact ⟨.ref a, e1, h (.ref a) H Φ (r.put (p := (some (.ref a), .ali i)) ⟨.ref a, .own o', rfl, e1, e, trivial⟩ fun _ _ => apart_none holds_ali)⟩
    | lent j o' =>
      obtain ⟨a, e2, q⟩ := o
      subst e2
      exact ⟨.ref a, e1, h (.ref a) H Φ (r.put (p := (some (.ref a), .ali i)) ⟨.ref a, .lent j o', rfl, e1, e, trivial⟩ fun _ _ => apart_none holds_ali)⟩

/-! #### what an operation by values does -/
/-- the operation f, by plain data, is what r asks -/
def OpS (F : Fm) (f : D → D → Option S) (r : R2) : Prop := ∀ {Φ H : Hp} {σ : L2.St} {τ : List S} {tm : Env1} {v w : V} {d e : D} {s : S} {Q : VK}, Rl F Φ H σ τ tm → Rdv F Φ H v d → Rdv F Φ H w e → f d e = some s →
  (∀ x H' Φ', Rl F Φ' H' σ τ ((some x, s) :: tm) → Q x H') → r v w H Q
def UnS (F : Fm) (f : D → Option S) (r : V → Hp → VK → Prop) : Prop := ∀ {Φ H : Hp} {σ : L2.St} {τ : List S} {tm : Env1} {v : V} {d : D} {s : S} {Q : VK}, Rl F Φ H σ τ tm → Rdv F Φ H v d → f d = some s →
  (∀ x H' Φ', Rl F Φ' H' σ τ ((some x, s) :: tm) → Q x H') → r v H Q
inductive RdAll (F : Fm) (Φ H : Hp) : List V → List D → Prop
  | nil : RdAll F Φ H [] []
  | cons {v : V} {d : D} {vs : List V} {ds : List D} : Rdv F Φ H v d → RdAll F Φ H vs ds → RdAll F Φ H (v :: vs) (d :: ds)
def CaS (F : Fm) (f : List D → Option S) (r : List V → Hp → VK → Prop) : Prop := ∀ {Φ H : Hp} {σ : L2.St} {τ : List S} {tm : Env1} {vs : List V} {ds : List D} {s : S} {Q : VK}, Rl F Φ H σ τ tm → RdAll F Φ H vs ds → f ds = some s →
  (∀ x H' Φ', Rl F Φ' H' σ τ ((some x, s) :: tm) → Q x H') → r vs H Q
def peekAll : List S → M (List D)
  | [] => M.ret []
  | s :: ss => M.bnd (peek s) fun d => M.bnd (peekAll ss) fun ds => M.ret (d :: ds)
theorem peek_ok {s : S} {d : D} (h : peek s τ = .ok (d, τ')) : peekS τ s = some d ∧ τ' = τ := by
  unfold peek at h
  cases e : peekS τ s with
  | none => rw [e] at h; cases h
  | some d' => rw [e] at h; cases h; exact ⟨rfl, rfl⟩
theorem Rl.peekAll {tm0 : Env1} : ∀ {ss : List S} {vs : List V} {K : List D → List S → Prop} {tm : Env1}, vs.length = ss.length → Rl F Φ H σ τ ((vs.map some).zip ss ++ tm) → Wp F W tm0 (peekAll ss τ) K → ∃ ds, RdAll F Φ H vs ds ∧ K ds τ
  | [], [], K, tm, _, _, h => ⟨[], .nil, h⟩
  | s :: ss, v :: vs, K, tm, l, r, h => by
    obtain ⟨d, e1, h1⟩ := Wp.peek h.bnd
    obtain ⟨ds, q, k⟩ := Rl.peekAll (tm := tm) (by simpa using l) (r.air (.of (by
      show ((vs.map some).zip ss ++ tm).Sublist ((some v, s) :: ((vs.map some).zip ss ++ tm))
      exact List.sublist_cons_self _ _))) h1.bnd
    exact ⟨d :: ds, .cons (r.peek (r.one (some v, s) (List.mem_append_right _ List.mem_cons_self)) e1) q, k⟩

def eOp (f : D → D → Option S) (ma mb : M S) : M S := M.bnd ma fun s => M.bnd mb fun t => M.bnd (peek s) fun d => M.bnd (peek t) fun e => M.of (f d e)
theorem t_op {f : D → D → Option S} {r : R2} (hf : OpS F f r) {ma mb : M S} {Q : VK} (h : TEm F W (eOp f ma mb) σ H Q) : tOp r (TEm F W ma) (TEm F W mb) σ H Q := by
  obtain ⟨Φ, τ, tm, rl, h⟩ := h
  refine te_go rl h.bnd fun s τ1 v H1 Φ1 p1 r1 => te_go r1 p1.bnd fun t τ2 w H2 Φ2 p2 r2 => ?_
  obtain ⟨d, e1, p3⟩ := Wp.peek p2.bnd
  obtain ⟨e, e2, p4⟩ := Wp.peek p3.bnd
  obtain ⟨u, e3, k⟩ := Wp.of p4
  exact hf r2.tl.tl (r2.peek (r2.one (some v, s) (List.mem_append_right _ (List.mem_cons_of_mem _ List.mem_cons_self))) e1) (r2.peek r2.hd e2) e3 fun x H' Φ' r' => k x H' Φ' r'
variable {a b : Expr} {ma mb : M S} {pos : Pos}
theorem em_op {op : Operator} {f : D → D → Option S} {r : R2} (ho : OpR X (binaryOp op) r) (hf : OpS F f r) (ha : EM X F W a ma) (hb : EM X F W b mb) : EM X F W (.BinOp a op b pos) (eOp f ma mb) := PE.imp (pe_op ho ha hb) fun _ _ _ h => t_op hf h
theorem em_cmp {op : CmpOp} {f : D → D → Option S} {r : R2} (ho : OpR X (compareOp op) r) (hf : OpS F f r) (ha : EM X F W a ma) (hb : EM X F W b mb) (hm : behindInMarks op b = false) : EM X F W (.Compare a [op] [b] pos) (eOp f ma mb) := PE.imp (pe_cmpR ho ha hb hm) fun _ _ _ h => t_op hf h
theorem em_ix {f : D → D → Option S} {r : R2} (ho : IxR X r) (hf : OpS F f r) (ha : EM X F W a ma) (hb : EM X F W b mb) (hs : PlainIx b := by exact fun _ _ => rfl) : EM X F W (.Subscript a b pos) (eOp f ma mb) := PE.imp (pe_ix ho ha hb hs) fun _ _ _ h => t_op hf h
def eUn (f : D → Option S) (ma : M S) : M S := M.bnd ma fun s => M.bnd (peek s) fun d => M.of (f d)
theorem t_un {f : D → Option S} {r : V → Hp → VK → Prop} (hf : UnS F f r) {Q : VK} (h : TEm F W (eUn f ma) σ H Q) : TEm F W ma σ H fun x H1 => r x H1 Q := by
  obtain ⟨Φ, τ, tm, rl, h⟩ := h
  refine te_go rl h.bnd fun s τ1 v H1 Φ1 p1 r1 => ?_
  obtain ⟨d, e1, p2⟩ := Wp.peek p1.bnd
  obtain ⟨u, e3, k⟩ := Wp.of p2
  exact hf r1.tl (r1.peek r1.hd e1) e3 fun x H' Φ' r' => k x H' Φ' r'
theorem em_un {op : UnaryOp} {f : D → Option S} {r : V → Hp → VK → Prop} (ho : UnR X (unaryOp op) r) (hf : UnS F f r) (ha : EM X F W a ma) : EM X F W (.UnaryOp op a pos) (eUn f ma) := PE.imp (pe_un ho ha) fun _ _ _ h => t_un hf h

/-! #### truth -/
def asB : S → Option Bool
  | .val (.bl b) => some b
  | _ => none
def bVal (ma : M S) : M Bool := M.bnd ma fun s => M.of (asB s)
theorem one_bl {v : V} {s : S} {b : Bool} (h : One F Φ H σ τ (some v, s)) (e : asB s = some b) : v = .bl b := by
  cases s with
  | val d =>
    cases d with
    | bl b' =>
      cases e
      obtain ⟨x, e1, q⟩ := h
      cases e1
      cases q
      rfl
    | _ => cases e
  | _ => cases e
theorem t_val {Q : Bool → Hp → Prop} (h : TBm F W (bVal ma) σ H Q) : TEm F W ma σ H fun x H1 => ∃ c, x = .bl c ∧ Q c H1 := by
  obtain ⟨Φ, τ, tm, rl, h⟩ := h
  refine te_go rl h.bnd fun s τ1 v H1 Φ1 p1 r1 => ?_
  obtain ⟨b, e, k⟩ := Wp.of p1
  exact ⟨b, one_bl r1.hd e, k H1 Φ1 r1.tl⟩
theorem bm_val (ha : EM X F W a ma) (he : ∀ whole, isTrue a X.env whole = (do let v ← whole; standAt a.pos; holding [v] (truthy v)) := by intro _; rfl) : BM X F W a (bVal ma) := PT.imp (pt_val ha he) fun _ _ _ h => t_val h
theorem bm_cmp {op : CmpOp} {f : D → D → Option S} {r : R2} (ho : OpR X (compareOp op) r) (hf : OpS F f r) (ha : EM X F W a ma) (hb : EM X F W b mb) (hm : behindInMarks op b = false) : BM X F W (.Compare a [op] [b] pos) (bVal (eOp f ma mb)) :=
  PT.imp (pt_cmpR ho ha hb hm) fun _ _ _ h => t_op hf (t_val h)
def bNot (m : M Bool) : M Bool := M.bnd m fun b => M.ret (!b)
def bAnd (m n : M Bool) : M Bool := M.bnd m fun b => if b = true then n else M.ret false
def bOr (m n : M Bool) : M Bool := M.bnd m fun b => if b = true then M.ret true else n
variable {m n : M Bool} {rest : List Expr}
theorem bm_not (h : BM X F W a m) : BM X F W (.UnaryOp .Not a pos) (bNot m) := PT.imp (pt_not h) fun σ H Q ⟨Φ, τ, tm, rl, h⟩ => tb_go rl h.bnd fun b τ1 H1 Φ1 p1 r1 => p1 H1 Φ1 r1
theorem wm_and1 (h : BM X F W a m) : WM X F W (.BoolOp .And [a] pos) m := pw_and1 h
theorem wm_or1 (h : BM X F W a m) : WM X F W (.BoolOp .Or [a] pos) m := pw_or1 h
theorem wm_and (h : BM X F W a m) (hr : WM X F W (.BoolOp .And (b :: rest) pos) n) : WM X F W (.BoolOp .And (a :: b :: rest) pos) (bAnd m n) := PW.imp (pw_and h hr) fun σ H Q ⟨Φ, τ, tm, rl, h⟩ => tb_go rl h.bnd fun c τ1 H1 Φ1 p1 r1 => by
  cases c with
  | true => rw [if_pos rfl] at p1 ⊢; exact ⟨Φ1, τ1, tm, r1, p1⟩
  | false => rw [if_neg Bool.false_ne_true] at p1 ⊢; exact p1 H1 Φ1 r1
theorem wm_or (h : BM X F W a m) (hr : WM X F W (.BoolOp .Or (b :: rest) pos) n) : WM X F W (.BoolOp .Or (a :: b :: rest) pos) (bOr m n) := PW.imp (pw_or h hr) fun σ H Q ⟨Φ, τ, tm, rl, h⟩ => tb_go rl h.bnd fun c τ1 H1 Φ1 p1 r1 => by
  cases c with
  | true => rw [if_pos rfl] at p1 ⊢; exact p1 H1 Φ1 r1
  | false => rw [if_neg Bool.false_ne_true] at p1 ⊢; exact ⟨Φ1, τ1, tm, r1, p1⟩
/-- as values -/
def eAnd (ma mb : M S) : M S := M.bnd ma fun s => M.bnd (M.of (asB s)) fun b => if b = true then mb else M.ret (.val (.bl false))
def eOr (ma mb : M S) : M S := M.bnd ma fun s => M.bnd (M.of (asB s)) fun b => if b = true then M.ret (.val (.bl true)) else mb
def eNot (ma : M S) : M S := M.bnd ma fun s => M.bnd (M.of (asB s)) fun b => M.ret (.val (.bl !b))
theorem em_one {op} (h : EM X F W a ma) : EM X F W (.BoolOp op [a] pos) ma := pe_one h
theorem em_and (ha : EM X F W a ma) (hb : EM X F W (.BoolOp .And (b :: rest) pos) mb) : EM X F W (.BoolOp .And (a :: b :: rest) pos) (eAnd ma mb) := PE.imp (pe_and ha hb) fun σ H Q ⟨Φ, τ, tm, rl, h⟩ => te_go rl h.bnd fun s τ1 v H1 Φ1 p1 r1 => by
  obtain ⟨c, e, k⟩ := Wp.of p1.bnd
  refine ⟨c, one_bl r1.hd e, ?_⟩
  cases c with
  | true => rw [if_pos rfl] at k ⊢; exact ⟨Φ1, τ1, tm, r1.tl, k⟩
  | false => rw [if_neg Bool.false_ne_true] at k ⊢; exact k _ _ _ (r1.tl.val (.bl false))
theorem em_or (ha : EM X F W a ma) (hb : EM X F W (.BoolOp .Or (b :: rest) pos) mb) : EM X F W (.BoolOp .Or (a :: b :: rest) pos) (eOr ma mb) := PE.imp (pe_or ha hb) fun σ H Q ⟨Φ, τ, tm, rl, h⟩ => te_go rl h.bnd fun s τ1 v H1 Φ1 p1 r1 => by
  obtain ⟨c, e, k⟩ := Wp.of p1.bnd
  refine ⟨c, one_bl r1.hd e, ?_⟩
  cases c with
  | true => rw [if_pos rfl] at k ⊢; exact k _ _ _ (r1.tl.val (.bl true))
  | false => rw [if_neg Bool.false_ne_true] at k ⊢; exact ⟨Φ1, τ1, tm, r1.tl, k⟩
theorem em_not (ha : EM X F W a ma) : EM X F W (.UnaryOp .Not a pos) (eNot ma) := PE.imp (pe_not ha) fun σ H Q ⟨Φ, τ, tm, rl, h⟩ => te_go rl h.bnd fun s τ1 v H1 Φ1 p1 r1 => by
  obtain ⟨c, e, k⟩ := Wp.of p1.bnd
  exact ⟨c, one_bl r1.hd e, k _ _ _ (r1.tl.val (.bl _))⟩
def eIf (m : M Bool) (ma mb : M S) : M S := M.bnd m fun b => if b = true then ma else mb
theorem em_if {c : Expr} (hc : BM X F W c m) (ha : EM X F W a ma) (hb : EM X F W b mb) : EM X F W (.IfExp c a b pos) (eIf m ma mb) := PE.imp (pe_ifExp hc ha hb) fun σ H Q ⟨Φ, τ, tm, rl, h⟩ => tb_go rl h.bnd fun b τ1 H1 Φ1 p1 r1 => by
  cases b with
  | true => rw [if_pos rfl] at p1 ⊢; exact ⟨Φ1, τ1, tm, r1, p1⟩
  | false => rw [if_neg Bool.false_ne_true] at p1 ⊢; exact ⟨Φ1, τ1, tm, r1, p1⟩
/-- a < b < c -/
def eChain (f g : D → D → Option S) (ma mb mc : M S) : M S := M.bnd ma fun s => M.bnd mb fun t => M.bnd (peek s) fun d => M.bnd (peek t) fun e => M.bnd (M.of (f d e)) fun u => M.bnd (M.of (asB u)) fun k =>
  if k = true then M.bnd mc fun t2 => M.bnd (peek t) fun e' => M.bnd (peek t2) fun e2 => M.of (g e' e2) else M.ret (.val (.bl false))

/-! #### lists of arguments, displays -/
def lNil : M (List S) := M.ret []
def lCons (ma : M S) (ms : M (List S)) : M (List S) := M.bnd ma fun s => M.bnd ms fun ss => M.ret (s :: ss)
variable {es : List Expr} {ms : M (List S)}
theorem lm_nil : LM X F W [] lNil := PA.imp pa_nil fun σ H Q ⟨Φ, τ, tm, rl, h⟩ => h [] H Φ rfl rl
theorem lm_cons (ha : EM X F W a ma) (hr : LM X F W es ms) (hs : starEach (a :: es) X.env = (false, eval a X.env) :: starEach es X.env := by rfl) : LM X F W (a :: es) (lCons ma ms) :=
  PA.imp (pa_cons ha hr hs) fun σ H Q ⟨Φ, τ, tm, rl, h⟩ => te_go rl h.bnd fun s τ1 v H1 Φ1 p1 r1 => tl_go r1 p1.bnd fun ss τ2 vs H2 Φ2 p2 l r2 => p2 (v :: vs) H2 Φ2 (by simp [l]) (r2.air (.perm (by
    show ((vs.map some).zip ss ++ ((some v, s) :: tm)).Perm ((some v, s) :: ((vs.map some).zip ss ++ tm))
    exact List.perm_middle)))
def fitL (n : Nat) : Option Unit := if n ≤ sizeLine then some () else none
def eTup (ms : M (List S)) : M S := M.bnd ms fun ss => M.bnd (takeAll ss) fun ds => M.bnd (M.of (fitL ds.length)) fun _ => M.ret (.val (.tup ds))
def eLst (ms : M (List S)) : M S := M.bnd ms fun ss => M.bnd (takeAll ss) fun ds => M.bnd (M.of (fitL ds.length)) fun _ => M.ret (.own (.lst ds))
theorem fit_ok {n : Nat} {u : Unit} (h : fitL n = some u) : n ≤ sizeLine := by
  unfold fitL at h
  split at h
  · assumption
  · cases h
theorem em_tup {x1} (h : LM X F W es ms) : EM X F W (.Tuple es x1 pos) (eTup ms) := PE.imp (pe_tup h) fun σ H Q ⟨Φ, τ, tm, rl, h⟩ => tl_go rl h.bnd fun ss τ1 vs H1 Φ1 p1 l r1 => by
  obtain ⟨ds, τ2, e, p2⟩ := takeAll_cases p1.bnd
  obtain ⟨Φ2, r2, q⟩ := Rl.takenAll l r1 e
  obtain ⟨u, e2, k⟩ := Wp.of p2.bnd
  exact ⟨by rw [q.length]; exact fit_ok e2, fun p hp => k _ _ _ (r2.tuple hp q)⟩
theorem em_lst (h : LM X F W es ms) : EM X F W (.List es pos) (eLst ms) := PE.imp (pe_lst h) fun σ H Q ⟨Φ, τ, tm, rl, h⟩ => tl_go rl h.bnd fun ss τ1 vs H1 Φ1 p1 l r1 => by
  obtain ⟨ds, τ2, e, p2⟩ := takeAll_cases p1.bnd
  obtain ⟨Φ2, r2, q⟩ := Rl.takenAll l r1 e
  obtain ⟨u, e2, k⟩ := Wp.of p2.bnd
  exact ⟨by rw [q.length]; exact fit_ok e2, fun p hp => k _ _ _ (r2.mine hp q)⟩

/-! #### calls of what is built in -/
def eCB (f : List D → Option S) (ms : M (List S)) : M S := M.bnd ms fun ss => M.bnd (peekAll ss) fun ds => M.of (f ds)
theorem t_cb {f : List D → Option S} {r : List V → Hp → VK → Prop} (hf : CaS F f r) {Q : VK} (h : TEm F W (eCB f ms) σ H Q) : tCB r (TLm F W ms) σ H Q := by
  obtain ⟨Φ, τ, tm, rl, h⟩ := h
  refine tl_go rl h.bnd fun ss τ1 vs H1 Φ1 p1 l r1 => ?_
  obtain ⟨ds, q, p2⟩ := Rl.peekAll l r1 p1.bnd
  obtain ⟨s, e, k⟩ := Wp.of p2
  have r2 : Rl F Φ1 H1 σ τ1 tm := r1.air (.of (List.sublist_append_right _ _))
  exact hf r2 q e fun x H' Φ' r' => k x H' Φ' r'
variable {x : Str} {p : Pos} {id T : String} {f : List D → Option S} {r : List V → Hp → VK → Prop}
theorem em_callB (hc : CallR X (.builtin id) r) (hf : CaS F f r) (hm : X.mg x = none) (ha : LM X F W (a :: es) ms) (hv : bootBuiltins x = some (.builtin id) := by decide +kernel) (hg : Gl X x := by rfl) (hn : x ≠ "__name__" := by decide) (hdb : (x == ("__debug__" : Str)) = false := by decide)
    (he : starEach (a :: es) X.env = (false, eval a X.env) :: starEach es X.env := by rfl) (hpl : (backTo pos (starEach es X.env)).any (·.1) = false := by rfl) : EM X F W (.Call (.Name x p) (a :: es) [] pos) (eCB f ms) := PE.imp (pe_callB hc hg hm hv ha hn hdb he hpl) fun _ _ _ h => t_cb hf h
theorem em_callTy (hc : CallR X (.type T) r) (hf : CaS F f r) (hm : X.mg x = none) (ha : LM X F W (a :: es) ms) (hv : bootBuiltins x = some (.type T) := by decide +kernel) (hg : Gl X x := by rfl) (hn : x ≠ "__name__" := by decide) (hdb : (x == ("__debug__" : Str)) = false := by decide)
    (he : starEach (a :: es) X.env = (false, eval a X.env) :: starEach es X.env := by rfl) (hpl : (backTo pos (starEach es X.env)).any (·.1) = false := by rfl) : EM X F W (.Call (.Name x p) (a :: es) [] pos) (eCB f ms) := PE.imp (pe_callTy hc hg hm hv ha hn hdb he hpl) fun _ _ _ h => t_cb hf h
end
end Mi

/-! ### M4: operations by plain data -/
namespace Mi
open PySem PySem.Spec PyProof.Rows L2

/-- below a million bits together -/
def mulFits (i j : Int) : Bool := decide (i.natAbs.log2 + j.natAbs.log2 < 1000000) || (decide (-(2 ^ 64) < i) && decide (i < 2 ^ 64))
/-- small factors, or a left one of 64 bits -/
def CMulB (i j : Int) : Prop := CMulW i j ∨ CMul i j
theorem op_mulB : OpR X (binaryOp .Mult) (rI CMulB fun i j => .int (i * j)) := by
  intro pins s σ H x y v u Q I rx ry h
  obtain ⟨i, j, e1, e2, hc, q⟩ := h
  rcases hc with hc | hc
  · exact op_mulW pins s σ H x y v u Q I rx ry ⟨i, j, e1, e2, hc, q⟩
  · exact op_mul pins s σ H x y v u Q I rx ry ⟨i, j, e1, e2, hc, q⟩
def sInt (i : Int) : Option S := some (.val (.int i))
def sBl (b : Bool) : Option S := some (.val (.bl b))
def fAdd : D → D → Option S
  | .int i, .int j => sInt (i + j)
  | .str x, .str y => if x.length + y.length ≤ sizeLine then some (.val (.str (x ++ y))) else none
  | .lst xs, .lst ys => if xs.length + ys.length ≤ sizeLine then some (.own (.lst (xs ++ ys))) else none
  | .tup xs, .tup ys => if xs ≠ [] ∧ ys ≠ [] ∧ xs.length + ys.length ≤ sizeLine then some (.val (.tup (xs ++ ys))) else none
  | _, _ => none
def fSub : D → D → Option S
  | .int i, .int j => sInt (i - j)
  | _, _ => none
def fMul : D → D → Option S
  | .int i, .int j => if mulFits i j = true then sInt (i * j) else none
  | .str x, .int j => none
  | _, _ => none
/-- a positive divisor below 2 ^ 9000 -/
def fDiv : D → D → Option S
  | .int i, .int j => if 0 < j ∧ j.natAbs.log2 < 9000 then sInt (i / j) else if j < 0 ∧ j.natAbs.log2 < 9000 then sInt (i.fdiv j) else none
  | _, _ => none
def fMod : D → D → Option S
  | .int i, .int j => if 0 < j then sInt (i % j) else if j < 0 then sInt (i.fmod j) else none
  | _, _ => none
def fNeg : D → Option S
  | .int i => sInt (-i)
  | _ => none
def fCmp (p : Int → Int → Bool) : D → D → Option S
  | .int i, .int j => sBl (p i j)
  | _, _ => none
def fLt := fCmp fun i j => decide (i < j)
def fLe := fCmp fun i j => decide (i ≤ j)
def fGt := fCmp fun i j => decide (j < i)
def fGe := fCmp fun i j => decide (j ≤ i)
mutual
def D.py : D → Option PyData
  | .non => some .none
  | .bl b => some (.bool b)
  | .int i => some (.int i)
  | .str x => some (.str x)
  | .lst xs => (D.pys xs).map .list
  | .tup xs => (D.pys xs).map .tuple
  | _ => none
def D.pys : List D → Option (List PyData)
  | [] => some []
  | d :: ds => match D.py d, D.pys ds with
    | some p, some ps => some (p :: ps)
    | _, _ => none
end
def eqD (d e : D) : Option Bool := match d.py, e.py with
  | some p, some q => if SeqAt.shaped p = true ∧ SeqAt.shaped q = true then some (PyData.eqv p q) else none
  | _, _ => none
def fEq (d e : D) : Option S := (eqD d e).map fun b => .val (.bl b)
def fNe (d e : D) : Option S := (eqD d e).map fun b => .val (.bl !b)
def isNon : D → Bool
  | .non => true
  | _ => false
def fIsN (d e : D) : Option S := if isNon e = true then sBl (isNon d) else none
def fNotN (d e : D) : Option S := if isNon e = true then sBl (!isNon d) else none
/-- x[i] -/
def fIx : D → D → Option S
  | .lst xs, .int i => (atI xs i).map .val
  | .tup xs, .int i => (atI xs i).map .val
  | .scr xs, .int i => (atI xs i).map .val
  | .str z, .int i => if z.length ≤ sizeLine then (atI z.cps.toList i).map fun c => .val (.str ⟨#[c]⟩) else none
  | _, _ => none
def fLen : List D → Option S
  | [.lst xs] => sInt xs.length
  | [.tup xs] => sInt xs.length
  | [.scr xs] => sInt xs.length
  | [.str z] => if z.length ≤ sizeLine then sInt z.length else none
  | _ => none
def fAbs : List D → Option S
  | [.int i] => sInt (if i < 0 then -i else i)
  | _ => none
def fInt : List D → Option S
  | [.int i] => sInt i
  | [.bl k] => sInt (if k then 1 else 0)
  | _ => none
def fBool : List D → Option S
  | [.int i] => sBl (i != 0)
  | [.bl k] => sBl k
  | _ => none
def fList : List D → Option S
  | [.lst xs] => some (.own (.lst xs))
  | [.tup xs] => some (.own (.lst xs))
  | [.scr xs] => some (.own (.lst xs))
  | _ => none
def fTuple : List D → Option S
  | [.lst xs] => some (.val (.tup xs))
  | [.scr xs] => some (.val (.tup xs))
  | [.tup xs] => some (.val (.tup xs))
  | _ => none
def bools : List D → Option (List Bool)
  | [] => some []
  | .bl b :: ds => (bools ds).map (b :: ·)
  | _ => none
def intsD : List D → Option (List Int)
  | [] => some []
  | .int b :: ds => (intsD ds).map (b :: ·)
  | _ => none
def fAll : List D → Option S
  | [.lst xs] => (bools xs).map fun bs => .val (.bl (bs.all id))
  | _ => none
def fAny : List D → Option S
  | [.lst xs] => (bools xs).map fun bs => .val (.bl (bs.any id))
  | _ => none
def fSum : List D → Option S
  | [.lst xs] => (intsD xs).map fun ns => .val (.int ns.sum)
  | _ => none
section
variable {X : Cx} {F : Fm} {Φ Φ' H H' : Hp} {σ : L2.St} {τ τ' : List S} {tm : Env1}
theorem OpS.or {f : D → D → Option S} {r r' : R2} (h : OpS F f r) : OpS F f (fun x y H Q => r x y H Q ∨ r' x y H Q) := fun rl a b e k => .inl (h rl a b e k)
theorem fin_int {Q : VK} {i : Int} {s : S} (rl : Rl F Φ H σ τ tm) (e : sInt i = some s) (k : ∀ x H' Φ', Rl F Φ' H' σ τ ((some x, s) :: tm) → Q x H') : Q (.int i) H := by
  cases e
  exact k _ _ _ (rl.val (.int i))
theorem fin_bool {Q : VK} {i : Bool} {s : S} (rl : Rl F Φ H σ τ tm) (e : sBl i = some s) (k : ∀ x H' Φ', Rl F Φ' H' σ τ ((some x, s) :: tm) → Q x H') : Q (.bl i) H := by
  cases e
  exact k _ _ _ (rl.val (.bl i))
theorem o_add (hK : X.K = F.G.K) : ∃ r, OpR X (binaryOp .Add) r ∧ OpS F fAdd r := by
  refine ⟨_, (op_add (X := X)).or ((op_add_str (X := X)).or ((op_cat (X := X)).or (op_catT (X := X)))), ?_⟩
  intro Φ H σ τ tm v w d e s Q rl hd he hf k
  unfold fAdd at hf
  split at hf
  · exact .inl ⟨_, _, hd.int, he.int, fin_int rl hf k⟩
  · split at hf
    · rename_i hz
      cases hf
      exact .inr (.inl ⟨_, _, hd.str, he.str, hz, k _ _ _ (rl.val (.str _))⟩)
    · cases hf
  · split at hf
    · rename_i hz
      cases hf
      obtain ⟨a, vs, e1, e2, q1⟩ := hd.lst rl.le
      obtain ⟨b, ws, e3, e4, q2⟩ := he.lst rl.le
      exact .inr (.inr (.inl ⟨a, b, vs, ws, e1, e3, e2, e4, by rw [q1.length, q2.length]; exact hz, fun p hp => k _ _ _ (rl.mine hp (FzL.append q1 q2))⟩))
    · cases hf
  · split at hf
    · rename_i hz
      cases hf
      obtain ⟨a, vs, e1, e2, q1⟩ := hd.tup rl.le
      obtain ⟨b, ws, e3, e4, q2⟩ := he.tup rl.le
      have l1 := q1.length
      have l2 := q2.length
      refine .inr (.inr (.inr ⟨a, b, vs, ws, e1, e3, by rw [hK]; exact e2, by rw [hK]; exact e4, fun z => ?_, by rw [l1, l2]; exact hz.2.2, fun z => ?_, fun _ p hp => k _ _ _ (rl.tuple hp (FzL.append q1 q2))⟩))
      · subst z
        exact absurd (List.length_eq_zero_iff.mp (by simpa using l1.symm)) hz.1
      · subst z
        exact absurd (List.length_eq_zero_iff.mp (by simpa using l2.symm)) hz.2.1
    · cases hf
  · cases hf
/-- two intsD -/
theorem o_int {op : D → D → Option S} {C : Int → Int → Prop} {g : Int → Int → Int} (h : ∀ d e s, op d e = some s → ∃ i j, d = .int i ∧ e = .int j ∧ C i j ∧ s = .val (.int (g i j))) : OpS F op (rI C fun i j => .int (g i j)) := by
  intro Φ H σ τ tm v w d e s Q rl hd he hf k
  obtain ⟨i, j, rfl, rfl, c, rfl⟩ := h d e s hf
  exact ⟨i, j, hd.int, he.int, c, k _ _ _ (rl.val (.int _))⟩
theorem o_int0 {op : D → D → Option S} {g : Int → Int → Int} (h : ∀ d e s, op d e = some s → ∃ i j, d = .int i ∧ e = .int j ∧ s = .val (.int (g i j))) : OpS F op (rI0 fun i j => .int (g i j)) := by
  intro Φ H σ τ tm v w d e s Q rl hd he hf k
  obtain ⟨i, j, rfl, rfl, rfl⟩ := h d e s hf
  exact ⟨i, j, hd.int, he.int, k _ _ _ (rl.val (.int _))⟩
theorem o_sub : OpS F fSub (rI0 fun i j => .int (i - j)) := o_int0 fun d e s h => by
  unfold fSub at h
  split at h
  · cases h; exact ⟨_, _, rfl, rfl, rfl⟩
  · cases h
theorem o_mul : OpS F fMul (rI CMulB fun i j => .int (i * j)) := o_int fun d e s h => by
  unfold fMul at h
  split at h
  · split at h
    · rename_i hz
      cases h; exact ⟨_, _, rfl, rfl, (by
        rcases Bool.or_eq_true_iff.mp hz with hz | hz
        · exact .inl (by unfold CMulW; exact of_decide_eq_true hz)
        · obtain ⟨h1, h2⟩ := Bool.and_eq_true_iff.mp hz
          exact .inr (.inl ⟨of_decide_eq_true h1, of_decide_eq_true h2⟩)), rfl⟩
    · cases h
  · cases h
  · cases h
def CDivA (i j : Int) : Prop := (0 < j ∨ j < 0) ∧ j.natAbs.log2 < 9000
theorem op_fdivA : OpR X (binaryOp .FloorDiv) (rI CDivA fun i j => .int (i.fdiv j)) := opI fun i j _ _ _ _ _ hc q => floordiv_int (by have := hc.1; omega) q (.inl (PyProof.noPylong_of_log2 hc.2))
theorem o_div : OpS F fDiv (rI CDivA fun i j => .int (i.fdiv j)) := o_int fun d e s h => by
  unfold fDiv at h
  split at h
  · rename_i i j
    split at h
    · rename_i hz
      cases h; exact ⟨_, _, rfl, rfl, ⟨.inl hz.1, hz.2⟩, by rw [Int.fdiv_eq_ediv_of_nonneg i (by omega)]⟩
    · split at h
      · rename_i hz
        cases h; exact ⟨_, _, rfl, rfl, ⟨.inr hz.1, hz.2⟩, rfl⟩
      · cases h
  · cases h
theorem o_mod : OpS F fMod (rI (fun _ j => j ≠ 0) fun i j => .int (i.fmod j)) := o_int fun d e s h => by
  unfold fMod at h
  split at h
  · rename_i i j
    split at h
    · rename_i hz
      cases h; exact ⟨_, _, rfl, rfl, by omega, by rw [Int.fmod_eq_emod_of_nonneg i (by omega)]⟩
    · split at h
      · rename_i hz
        cases h; exact ⟨_, _, rfl, rfl, by omega, rfl⟩
      · cases h
  · cases h
theorem o_neg : UnS F fNeg (rU fun i => .int (-i)) := by
  intro Φ H σ τ tm v d s Q rl hd hf k
  unfold fNeg at hf
  split at hf
  · exact ⟨_, hd.int, fin_int rl hf k⟩
  · cases hf
theorem o_cmp {p : Int → Int → Bool} : OpS F (fCmp p) (rI0 fun i j => .bl (p i j)) := by
  intro Φ H σ τ tm v w d e s Q rl hd he hf k
  unfold fCmp at hf
  split at hf
  · exact ⟨_, _, hd.int, he.int, fin_bool rl hf k⟩
  · cases hf
mutual
theorem fz_dp : ∀ {d : D} {v : V} {p : PyData}, Fz F.G Φ v d → Le Φ H → d.py = some p → Dp F.G.K H v p
  | .non, _, _, h, _, e => by cases h; cases e; exact .non
  | .bl b, _, _, h, _, e => by cases h; cases e; exact .bl b
  | .int i, _, _, h, _, e => by cases h; cases e; exact .int i
  | .str x, _, _, h, _, e => by cases h; cases e; exact .str x
  | .lst xs, _, _, h, l, e => by
    cases h with
    | lst h t =>
      unfold D.py at e
      cases q : D.pys xs with
      | none => rw [q] at e; cases e
      | some ps =>
        rw [q] at e
        cases e
        exact .lst (.inl (.inl (l _ _ h))) (fzl_dp t l q)
  | .tup xs, _, _, h, l, e => by
    cases h with
    | tup h t =>
      unfold D.py at e
      cases q : D.pys xs with
      | none => rw [q] at e; cases e
      | some ps =>
        rw [q] at e
        cases e
        exact .tup (SqT.le h l) (fzl_dp t l q)
  | .dic _, _, _, _, _, e => by simp [D.py] at e
  | .scr _, _, _, _, _, e => by simp [D.py] at e
  | .ins _ _, _, _, _, _, e => by simp [D.py] at e
  | .exc _ _, _, _, _, _, e => by simp [D.py] at e
  | .ty _, _, _, _, _, e => by simp [D.py] at e
  | .cls _, _, _, _, _, e => by simp [D.py] at e
  | .fn _, _, _, _, _, e => by simp [D.py] at e
theorem fzl_dp : ∀ {ds : List D} {vs : List V} {ps : List PyData}, FzL F.G Φ vs ds → Le Φ H → D.pys ds = some ps → DpAll F.G.K H vs ps
  | [], _, _, h, _, e => by
    cases h
    simp [D.pys] at e
    subst e
    exact .nil
  | d :: ds, _, _, h, l, e => by
    cases h with
    | cons h t =>
      unfold D.pys at e
      split at e
      · rename_i p ps q1 q2
        cases e
        exact .cons (fz_dp h l q1) (fzl_dp t l q2)
      · cases e
end
theorem rd_dp {d : D} {v : V} {p : PyData} (h : Rdv F Φ H v d) (l : Le Φ H) (e : d.py = some p) : Dp F.G.K H v p := by
  rcases h with h | ⟨a, o, e1, e2, q⟩
  · exact fz_dp h l e
  · subst e1
    subst e2
    cases o with
    | ins c fs => simp [O.frz, D.py] at e
    | lst xs =>
      obtain ⟨vs, q1, q2⟩ := q
      unfold O.frz at e
      unfold D.py at e
      cases q : D.pys xs with
      | none => rw [q] at e; cases e
      | some ps =>
        rw [q] at e
        cases e
        exact .lst (.inl (.inl q1)) (fzl_dp q2 l q)
theorem eqD_some {d e : D} {b : Bool} (h : eqD d e = some b) : ∃ p q, d.py = some p ∧ e.py = some q ∧ SeqAt.shaped p = true ∧ SeqAt.shaped q = true ∧ b = PyData.eqv p q := by
  unfold eqD at h
  split at h
  · rename_i p q e1 e2
    split at h
    · rename_i hz
      cases h
      exact ⟨p, q, e1, e2, hz.1, hz.2, rfl⟩
    · cases h
  · cases h
theorem o_eq (hK : X.K = F.G.K) : OpS F fEq (rEqD X.K) := by
  intro Φ H σ τ tm v w d e s Q rl hd he hf k
  unfold fEq at hf
  obtain ⟨b, e1, rfl⟩ := Option.map_eq_some_iff.mp hf
  obtain ⟨p, q, p1, p2, s1, s2, rfl⟩ := eqD_some e1
  rw [hK]
  exact ⟨p, q, rd_dp hd rl.le p1, rd_dp he rl.le p2, s1, s2, k _ _ _ (rl.val (.bl _))⟩
theorem o_ne (hK : X.K = F.G.K) : OpS F fNe (rNeD X.K) := by
  intro Φ H σ τ tm v w d e s Q rl hd he hf k
  unfold fNe at hf
  obtain ⟨b, e1, rfl⟩ := Option.map_eq_some_iff.mp hf
  obtain ⟨p, q, p1, p2, s1, s2, rfl⟩ := eqD_some e1
  rw [hK]
  exact ⟨p, q, rd_dp hd rl.le p1, rd_dp he rl.le p2, s1, s2, k _ _ _ (rl.val (.bl _))⟩
theorem rd_isN {v : V} {d : D} (h : Rdv F Φ H v d) : decide (v = .non) = isNon d := by
  rcases h with h | ⟨a, o, e1, e2, q⟩
  · cases h <;> rfl
  · subst e1 e2
    cases o <;> rfl
theorem isN_eq {d : D} (h : isNon d = true) : d = .non := by
  cases d <;> first | rfl | cases h
theorem o_isN : OpS F fIsN (fun x y H Q => y = .non ∧ Q (.bl (decide (x = .non))) H) := by
  intro Φ H σ τ tm v w d e s Q rl hd he hf k
  unfold fIsN at hf
  split at hf
  · rename_i hz
    rw [isN_eq hz] at he
    exact ⟨he.non, by rw [rd_isN hd]; exact fin_bool rl hf k⟩
  · cases hf
theorem o_notN : OpS F fNotN (fun x y H Q => y = .non ∧ Q (.bl (!decide (x = .non))) H) := by
  intro Φ H σ τ tm v w d e s Q rl hd he hf k
  unfold fNotN at hf
  split at hf
  · rename_i hz
    rw [isN_eq hz] at he
    exact ⟨he.non, by rw [rd_isN hd]; exact fin_bool rl hf k⟩
  · cases hf
theorem atI_get {G : Gx} {vs : List V} {ds : List D} {i : Int} {d : D} (q : FzL G Φ vs ds) (h : atI ds i = some d) : ∃ v, atI vs i = some v ∧ Fz G Φ v d := by
  unfold atI at h ⊢
  rw [q.length]
  cases e : ixN ds.length i with
  | none => rw [e] at h; cases h
  | some j =>
    rw [e] at h
    exact FzL.get q h
theorem o_ix (hK : X.K = F.G.K) : OpS F fIx (rIx X.K) := by
  intro Φ H σ τ tm v w d e s Q rl hd he hf k
  unfold fIx at hf
  split at hf
  · obtain ⟨x, e1, rfl⟩ := Option.map_eq_some_iff.mp hf
    obtain ⟨a, vs, e2, e3, q⟩ := hd.lst rl.le
    obtain ⟨y, e4, q2⟩ := atI_get q e1
    exact .inl ⟨a, vs, _, y, e2, he.int, .inl (.inl e3), e4, k _ _ _ (rl.val q2)⟩
  · obtain ⟨x, e1, rfl⟩ := Option.map_eq_some_iff.mp hf
    obtain ⟨a, vs, e2, e3, q⟩ := hd.tup rl.le
    obtain ⟨y, e4, q2⟩ := atI_get q e1
    exact .inr (.inl ⟨a, vs, _, y, e2, he.int, by rw [hK]; exact e3, e4, k _ _ _ (rl.val q2)⟩)
  · obtain ⟨x, e1, rfl⟩ := Option.map_eq_some_iff.mp hf
    obtain ⟨a, vs, e2, e3, q⟩ := hd.scr rl.le
    obtain ⟨y, e4, q2⟩ := atI_get q e1
    exact .inl ⟨a, vs, _, y, e2, he.int, by rw [hK]; exact e3, e4, k _ _ _ (rl.val q2)⟩
  · split at hf
    · rename_i hz
      obtain ⟨x, e1, rfl⟩ := Option.map_eq_some_iff.mp hf
      exact .inr (.inr ⟨_, _, x, hd.str, he.int, hz, e1, k _ _ _ (rl.val (.str _))⟩)
    · cases hf
  · cases hf
theorem rd1 {vs : List V} {d : D} (h : RdAll F Φ H vs [d]) : ∃ v, vs = [v] ∧ Rdv F Φ H v d := by
  cases h with
  | cons h t => cases t; exact ⟨_, rfl, h⟩
theorem rd2 {vs : List V} {d e : D} (h : RdAll F Φ H vs [d, e]) : ∃ v w, vs = [v, w] ∧ Rdv F Φ H v d ∧ Rdv F Φ H w e := by
  cases h with
  | cons h t => obtain ⟨w, rfl, q⟩ := rd1 t; exact ⟨_, _, rfl, h, q⟩
theorem c_len (hK : X.K = F.G.K) : CaS F fLen (fun xs H Q => ∃ x n, xs = [x] ∧ LenV X.K x H n ∧ Q (.int n) H) := by
  intro Φ H σ τ tm vs ds s Q rl hd hf k
  unfold fLen at hf
  split at hf
  · obtain ⟨v, rfl, h⟩ := rd1 hd
    obtain ⟨a, ws, e2, e3, q⟩ := h.lst rl.le
    subst e2
    exact ⟨_, ws.length, rfl, .inl ⟨ws, .inl (.inl e3), rfl⟩, by rw [q.length]; exact fin_int rl hf k⟩
  · obtain ⟨v, rfl, h⟩ := rd1 hd
    obtain ⟨a, ws, e2, e3, q⟩ := h.tup rl.le
    subst e2
    exact ⟨_, ws.length, rfl, .inr ⟨ws, by rw [hK]; exact e3, rfl⟩, by rw [q.length]; exact fin_int rl hf k⟩
  · obtain ⟨v, rfl, h⟩ := rd1 hd
    obtain ⟨a, ws, e2, e3, q⟩ := h.scr rl.le
    subst e2
    exact ⟨_, ws.length, rfl, .inl ⟨ws, by rw [hK]; exact e3, rfl⟩, by rw [q.length]; exact fin_int rl hf k⟩
  · split at hf
    · rename_i hz
      obtain ⟨v, rfl, h⟩ := rd1 hd
      have := h.str
      subst this
      exact ⟨_, _, rfl, ⟨hz, rfl⟩, fin_int rl hf k⟩
    · cases hf
  · cases hf
theorem c_abs : CaS F fAbs (fun xs H Q => ∃ i, xs = [.int i] ∧ Q (.int (if i < 0 then -i else i)) H) := by
  intro Φ H σ τ tm vs ds s Q rl hd hf k
  unfold fAbs at hf
  split at hf
  · obtain ⟨v, rfl, h⟩ := rd1 hd
    exact ⟨_, by rw [h.int], fin_int rl hf k⟩
  · cases hf
theorem c_int : CaS F fInt (fun xs H Q => (∃ i, xs = [.int i] ∧ Q (.int i) H) ∨ ∃ k, xs = [.bl k] ∧ Q (.int (if k then 1 else 0)) H) := by
  intro Φ H σ τ tm vs ds s Q rl hd hf k
  unfold fInt at hf
  split at hf
  · obtain ⟨v, rfl, h⟩ := rd1 hd
    exact .inl ⟨_, by rw [h.int], fin_int rl hf k⟩
  · obtain ⟨v, rfl, h⟩ := rd1 hd
    exact .inr ⟨_, by rw [h.bl], fin_int rl hf k⟩
  · cases hf
theorem c_bool : CaS F fBool (fun xs H Q => (∃ i, xs = [.int i] ∧ Q (.bl (i != 0)) H) ∨ ∃ k, xs = [.bl k] ∧ Q (.bl k) H) := by
  intro Φ H σ τ tm vs ds s Q rl hd hf k
  unfold fBool at hf
  split at hf
  · obtain ⟨v, rfl, h⟩ := rd1 hd
    exact .inl ⟨_, by rw [h.int], fin_bool rl hf k⟩
  · obtain ⟨v, rfl, h⟩ := rd1 hd
    exact .inr ⟨_, by rw [h.bl], fin_bool rl hf k⟩
  · cases hf
theorem c_list (hK : X.K = F.G.K) : CaS F fList (fun xs H Q => ∃ p ys, xs = [.ref p] ∧ (SqL X.K H p ys ∨ SqT X.K H p ys) ∧ ∀ l, H l = none → Q (.ref l) (upd H l (.lst ys))) := by
  intro Φ H σ τ tm vs ds s Q rl hd hf k
  unfold fList at hf
  split at hf
  · obtain ⟨v, rfl, h⟩ := rd1 hd
    obtain ⟨a, ws, e2, e3, q⟩ := h.lst rl.le
    subst e2
    cases hf
    exact ⟨a, ws, rfl, .inl (.inl (.inl e3)), fun l hl => k _ _ _ (rl.mine hl q)⟩
  · obtain ⟨v, rfl, h⟩ := rd1 hd
    obtain ⟨a, ws, e2, e3, q⟩ := h.tup rl.le
    subst e2
    cases hf
    exact ⟨a, ws, rfl, .inr (by rw [hK]; exact e3), fun l hl => k _ _ _ (rl.mine hl q)⟩
  · obtain ⟨v, rfl, h⟩ := rd1 hd
    obtain ⟨a, ws, e2, e3, q⟩ := h.scr rl.le
    subst e2
    cases hf
    exact ⟨a, ws, rfl, .inl (by rw [hK]; exact e3), fun l hl => k _ _ _ (rl.mine hl q)⟩
  · cases hf
theorem c_tuple (hK : X.K = F.G.K) : CaS F fTuple (fun xs H Q => ∃ p ys, xs = [.ref p] ∧ ((SqL X.K H p ys ∧ ∀ l, H l = none → Q (.ref l) (upd H l (.tup ys))) ∨ (SqT X.K H p ys ∧ Q (.ref p) H))) := by
  intro Φ H σ τ tm vs ds s Q rl hd hf k
  unfold fTuple at hf
  split at hf
  · obtain ⟨v, rfl, h⟩ := rd1 hd
    obtain ⟨a, ws, e2, e3, q⟩ := h.lst rl.le
    subst e2
    cases hf
    exact ⟨a, ws, rfl, .inl ⟨.inl (.inl e3), fun l hl => k _ _ _ (rl.tuple hl q)⟩⟩
  · obtain ⟨v, rfl, h⟩ := rd1 hd
    obtain ⟨a, ws, e2, e3, q⟩ := h.scr rl.le
    subst e2
    cases hf
    exact ⟨a, ws, rfl, .inl ⟨by rw [hK]; exact e3, fun l hl => k _ _ _ (rl.tuple hl q)⟩⟩
  · obtain ⟨v, rfl, h⟩ := rd1 hd
    cases hf
    rcases h with h | ⟨a, o, e1, e2, q⟩
    · cases h with
      | tup h t => exact ⟨_, _, rfl, .inr ⟨by rw [hK]; exact SqT.le h rl.le, k _ _ _ (rl.val (.tup h t))⟩⟩
    · cases o <;> cases e2
  · cases hf
theorem bools_fz {G : Gx} : ∀ {xs : List D} {vs : List V} {bs : List Bool}, FzL G Φ vs xs → bools xs = some bs → vs = bs.map V.bl
  | [], _, bs, h, e => by cases h; cases e; rfl
  | d :: ds, _, bs, h, e => by
    cases h with
    | cons h t =>
      cases d with
      | bl b =>
        cases q : bools ds with
        | none => simp [bools, q] at e
        | some cs =>
          simp [bools, q] at e
          subst e
          cases h
          rw [bools_fz t q]
          rfl
      | _ => simp [bools] at e
theorem ints_fz {G : Gx} : ∀ {xs : List D} {vs : List V} {bs : List Int}, FzL G Φ vs xs → intsD xs = some bs → vs = bs.map V.int
  | [], _, bs, h, e => by cases h; cases e; rfl
  | d :: ds, _, bs, h, e => by
    cases h with
    | cons h t =>
      cases d with
      | int b =>
        cases q : intsD ds with
        | none => simp [intsD, q] at e
        | some cs =>
          simp [intsD, q] at e
          subst e
          cases h
          rw [ints_fz t q]
          rfl
      | _ => simp [intsD] at e
theorem c_all (hK : X.K = F.G.K) : CaS F fAll (rAll X.K) := by
  intro Φ H σ τ tm vs ds s Q rl hd hf k
  unfold fAll at hf
  split at hf
  · obtain ⟨v, rfl, h⟩ := rd1 hd
    obtain ⟨a, ws, e2, e3, q⟩ := h.lst rl.le
    subst e2
    obtain ⟨bs, e4, rfl⟩ := Option.map_eq_some_iff.mp hf
    rw [bools_fz q e4] at e3
    exact ⟨a, bs, rfl, .inl (.inl e3), k _ _ _ (rl.val (.bl _))⟩
  · cases hf
theorem c_any (hK : X.K = F.G.K) : CaS F fAny (rAny X.K) := by
  intro Φ H σ τ tm vs ds s Q rl hd hf k
  unfold fAny at hf
  split at hf
  · obtain ⟨v, rfl, h⟩ := rd1 hd
    obtain ⟨a, ws, e2, e3, q⟩ := h.lst rl.le
    subst e2
    obtain ⟨bs, e4, rfl⟩ := Option.map_eq_some_iff.mp hf
    rw [bools_fz q e4] at e3
    exact ⟨a, bs, rfl, .inl (.inl e3), k _ _ _ (rl.val (.bl _))⟩
  · cases hf
theorem c_sum (hK : X.K = F.G.K) : CaS F fSum (rSum X.K) := by
  intro Φ H σ τ tm vs ds s Q rl hd hf k
  unfold fSum at hf
  split at hf
  · obtain ⟨v, rfl, h⟩ := rd1 hd
    obtain ⟨a, ws, e2, e3, q⟩ := h.lst rl.le
    subst e2
    obtain ⟨bs, e4, rfl⟩ := Option.map_eq_some_iff.mp hf
    rw [ints_fz q e4] at e3
    exact ⟨a, bs, rfl, .inl (.inl e3), k _ _ _ (rl.val (.int _))⟩
  · cases hf
end
end Mi

/-! ### M5: statements -/
namespace Mi
open PySem PySem.Spec PyProof.Rows L2

inductive Fl where
  | nx | rt (s : S) | bk | ct
def Quiet (tm : Env1) : Prop := ∀ p ∈ tm, p.2.noali
def FlK (F : Fm) (D : Ends) (tm : Env1) (f : Fl) (τ' : List S) : Prop := match f with
  | .nx => ∀ σ' H' Φ', Rl F Φ' H' σ' τ' tm → D.nx σ' H'
  | .bk => ∀ σ' H' Φ', Rl F Φ' H' σ' τ' tm → D.bk σ' H'
  | .ct => ∀ σ' H' Φ', Rl F Φ' H' σ' τ' tm → D.ct σ' H'
  | .rt s => ∀ v σ' H' Φ', Rl F Φ' H' σ' τ' ((some v, s) :: tm) → D.rt v H'
def TSm (F : Fm) (W : WX) (m : M Fl) : L2.TS := fun D σ H => ∃ Φ τ tm, Quiet tm ∧ Rl F Φ H σ τ tm ∧ Wp F W tm (m τ) (FlK F D tm)
abbrev SM (X : Cx) (F : Fm) (W : WX) (st : Stmt) (m : M Fl) : Prop := PS X st (TSm F W m)
abbrev BlM (X : Cx) (F : Fm) (W : WX) (st : List Stmt) (m : M Fl) : Prop := PSs X st (TSm F W m)

section
variable {X : Cx} {F : Fm} {W : WX} {Φ Φ' H H' : Hp} {σ : L2.St} {τ τ' : List S} {tm : Env1}
theorem ts_go {D : Ends} {m : M Fl} {tm0 : Env1} {P : Fl → List S → Prop} (qt : Quiet tm) (r : Rl F Φ H σ τ tm) (h : Wp F W tm0 (m τ) P)
    (nx : ∀ τ1 σ1 H1 Φ1, P .nx τ1 → Rl F Φ1 H1 σ1 τ1 tm → D.nx σ1 H1) (bk : ∀ τ1 σ1 H1 Φ1, P .bk τ1 → Rl F Φ1 H1 σ1 τ1 tm → D.bk σ1 H1)
    (ct : ∀ τ1 σ1 H1 Φ1, P .ct τ1 → Rl F Φ1 H1 σ1 τ1 tm → D.ct σ1 H1) (rt : ∀ s τ1 v σ1 H1 Φ1, P (.rt s) τ1 → Rl F Φ1 H1 σ1 τ1 ((some v, s) :: tm) → D.rt v H1) (sub : Subp tm0 tm := by repeat (first | exact Subp.of (List.Sublist.refl _) | apply Subp.cons' | apply Subp.app')) : TSm F W m D σ H :=
  ⟨Φ, τ, tm, qt, r, (h.air sub).mono fun f τ1 p => by
    cases f with
    | nx => exact fun σ' H' Φ' r' => nx τ1 σ' H' Φ' p r'
    | bk => exact fun σ' H' Φ' r' => bk τ1 σ' H' Φ' p r'
    | ct => exact fun σ' H' Φ' r' => ct τ1 σ' H' Φ' p r'
    | rt s => exact fun v σ' H' Φ' r' => rt s τ1 v σ' H' Φ' p r'⟩
def sNil : M Fl := M.ret .nx
def sSeq (m n : M Fl) : M Fl := M.bnd m fun f => match f with
  | .nx => n
  | .bk => M.ret .bk
  | .ct => M.ret .ct
  | .rt s => M.ret (.rt s)
variable {st : Stmt} {rest : List Stmt} {m n : M Fl} {e : Expr} {ma mb : M S} {pos : Pos}
theorem bl_nil : BlM X F W [] sNil := PSs.imp pss_nil fun D σ H ⟨Φ, τ, tm, qt, r, h⟩ => h σ H Φ r
theorem bl_cons (h1 : SM X F W st m) (h2 : BlM X F W rest n) : BlM X F W (st :: rest) (sSeq m n) := PSs.imp (pss_cons h1 h2) fun D σ H ⟨Φ, τ, tm, qt, r, h⟩ =>
  ts_go (D := { D with nx := TSm F W n D }) qt r h.bnd (fun τ1 σ1 H1 Φ1 p r1 => ⟨Φ1, τ1, tm, qt, r1, p⟩) (fun τ1 σ1 H1 Φ1 p r1 => p σ1 H1 Φ1 r1) (fun τ1 σ1 H1 Φ1 p r1 => p σ1 H1 Φ1 r1) fun s τ1 v σ1 H1 Φ1 p r1 => p v σ1 H1 Φ1 r1
theorem bl_one (h1 : SM X F W st m) : BlM X F W [st] m := pss_one h1
def sBreak : M Fl := M.ret .bk
def sCont : M Fl := M.ret .ct
theorem sm_pass : SM X F W (.Pass pos) sNil := PS.imp ps_pass fun D σ H ⟨Φ, τ, tm, qt, r, h⟩ => h σ H Φ r
theorem sm_break : SM X F W (.Break pos) sBreak := PS.imp ps_break fun D σ H ⟨Φ, τ, tm, qt, r, h⟩ => h σ H Φ r
theorem sm_continue : SM X F W (.Continue pos) sCont := PS.imp ps_continue fun D σ H ⟨Φ, τ, tm, qt, r, h⟩ => h σ H Φ r
theorem sm_doc {x j pos'} : SM X F W (.Expr (.Constant (.str x) j pos) pos') sNil := PS.imp ps_doc fun D σ H ⟨Φ, τ, tm, qt, r, h⟩ => h σ H Φ r
def sExpr (ma : M S) : M Fl := M.bnd ma fun _ => M.ret .nx
theorem sm_expr (he : EM X F W e ma) (hs : swapsWith e none pos.line X.env = pure false := by rfl) : SM X F W (.Expr e pos) (sExpr ma) := PS.imp (ps_expr he hs) fun D σ H ⟨Φ, τ, tm, qt, r, h⟩ => te_go r h.bnd fun s τ1 v H1 Φ1 p r1 => p σ H1 Φ1 r1.tl
/-- what goes into a name: a value, or what is ours alone -/
def give (s : S) : M S := match s with
  | .own o => M.ret (.own o)
  | s => M.bnd (take s) fun d => M.ret (.val d)
theorem give_cases {tm0 : Env1} {s : S} {K : S → List S → Prop} {v : V} (r : Rl F Φ H σ τ ((some v, s) :: tm)) (h : Wp F W tm0 (give s τ) K) : ∃ s' τ' Φ', s'.noali ∧ Rl F Φ' H σ τ' ((some v, s') :: tm) ∧ K s' τ' := by
  have gen : Wp F W tm0 (M.bnd (take s) (fun d => M.ret (S.val d)) τ) K → ∃ s' τ' Φ', s'.noali ∧ Rl F Φ' H σ τ' ((some v, s') :: tm) ∧ K s' τ' := fun h => by
    obtain ⟨d, τ1, e, k⟩ := take_cases h.bnd
    obtain ⟨Φ1, r1⟩ := Rl.taken r e
    exact ⟨.val d, τ1, Φ1, trivial, r1, k⟩
  cases s with
  | own o => exact ⟨.own o, τ, Φ, trivial, r, h⟩
  | raw => exact gen h
  | non => exact gen h
  | val d => exact gen h
  | lent j o => exact gen h
  | ali i => exact gen h
def sAsg (i : Nat) (ma : M S) : M Fl := M.bnd ma fun s => M.bnd (give s) fun s' => fun τ => .ok (.nx, τ.set i s')
theorem sm_set (i : Nat) {x : Str} {pos' : Pos} (hN : X.N.Nodup) (he : EM X F W e ma) (hi : X.N[i]? = some x := by rfl) (hx : Loc X.env.scope x := by first | exact Or.inl rfl | exact Or.inr rfl) (hs : swapsWith e (some (.Name x pos')) pos.line X.env = pure false := by rfl) (hf : X.fn x = true ∨ X.env.scope.names.lookup x = some .local := by first | exact .inl rfl | exact .inr rfl | assumption) :
    SM X F W (.Assign [.Name x pos'] e pos) (sAsg i ma) := PS.imp (ps_set hN hi hx he hs hf) fun D σ H ⟨Φ, τ, tm, qt, r, h⟩ => te_go r h.bnd fun s τ1 v H1 Φ1 p r1 => by
  obtain ⟨s', τ2, Φ2, na, r2, k⟩ := give_cases r1 p.bnd
  exact k _ _ _ (r2.store na qt i)
def sRet (ma : M S) : M Fl := M.bnd ma fun s => M.bnd (give s) fun s' => M.ret (.rt s')
theorem sm_ret (he : EM X F W e ma) : SM X F W (.Return (some e) pos) (sRet ma) := PS.imp (ps_ret he) fun D σ H ⟨Φ, τ, tm, qt, r, h⟩ => te_go r h.bnd fun s τ1 v H1 Φ1 p r1 => by
  obtain ⟨s', τ2, Φ2, na, r2, k⟩ := give_cases r1 p.bnd
  exact k v σ H1 Φ2 r2
def sRetN : M Fl := M.ret (.rt (.val .non))
theorem sm_retN : SM X F W (.Return none pos) sRetN := PS.imp ps_retN fun D σ H ⟨Φ, τ, tm, qt, r, h⟩ => h .non σ H Φ (r.val .non)
def sIf (c : M Bool) (m n : M Fl) : M Fl := M.bnd c fun b => if b = true then m else n
theorem sm_if {c : Expr} {mc : M Bool} {a b : List Stmt} (hc : BM X F W c mc) (ha : BlM X F W a m) (hb : BlM X F W b n) : SM X F W (.If c a b pos) (sIf mc m n) := PS.imp (ps_if hc ha hb) fun D σ H ⟨Φ, τ, tm, qt, r, h⟩ => tb_go r h.bnd fun b τ1 H1 Φ1 p r1 => by
  cases b with
  | true => rw [if_pos rfl] at p ⊢; exact ⟨Φ1, τ1, tm, qt, r1, p⟩
  | false => rw [if_neg Bool.false_ne_true] at p ⊢; exact ⟨Φ1, τ1, tm, qt, r1, p⟩

/-! #### targets -/
/-- a target; what it does with slots -/
abbrev MG := S → M Unit
/-- nothing but these slots differs -/
structure But (is : List Nat) (σ σ' : L2.St) : Prop where
  len : σ'.length = σ.length
  at_ : ∀ j, j ∉ is → σ'[j]? = σ[j]?
theorem But.trans {is js : List Nat} {σ σ' σ'' : L2.St} (a : But is σ σ') (b : But js σ' σ'') : But (is ++ js) σ σ'' := ⟨b.len.trans a.len, fun j h => by
  rw [b.at_ j (fun z => h (List.mem_append_right _ z)), a.at_ j (fun z => h (List.mem_append_left _ z))]⟩
def TGm (F : Fm) (W : WX) (is : List Nat) (g : MG) : L2.TG := fun v σ H Q => ∃ Φ τ tm s, s.noali ∧ Quiet tm ∧ Rl F Φ H σ τ ((some v, s) :: tm) ∧ Wp F W tm (g s τ) fun _ τ' => ∀ σ' H' Φ', Rl F Φ' H' σ' τ' tm → But is σ σ' → Q σ' H'
abbrev GM (X : Cx) (F : Fm) (W : WX) (t : Expr) (is : List Nat) (g : MG) : Prop := PG X t (TGm F W is g)
def air (vs : List V) (ds : List D) : Env1 := (vs.map some).zip (ds.map S.val)
def TGsm (F : Fm) (W : WX) (is : List Nat) (g : List D → M Unit) : L2.TGs := fun vs σ H Q => ∃ Φ τ tm ds, vs.length = ds.length ∧ Quiet tm ∧ Rl F Φ H σ τ (air vs ds ++ tm) ∧ Wp F W tm (g ds τ) fun _ τ' => ∀ σ' H' Φ', Rl F Φ' H' σ' τ' tm → But is σ σ' → Q σ' H'
theorem PG.imp {t : Expr} {g g' : L2.TG} (h : PG X t g) (i : ∀ v σ H Q, g' v σ H Q → g v σ H Q) : PG X t g' := ⟨fun pins s σ H v u Q I r q => h.run pins s σ H v u Q I r (i _ _ _ _ q)⟩
theorem PGs.imp {t : List Expr} {g g' : L2.TGs} (h : PGs X t g) (i : ∀ v σ H Q, g' v σ H Q → g v σ H Q) : PGs X t g' := ⟨fun pins s σ H v u Q I r q => h.run pins s σ H v u Q I r (i _ _ _ _ q)⟩
def gNam (i : Nat) : MG := fun s τ => .ok ((), τ.set i s)
theorem gm_name (i : Nat) {x : Str} (hN : X.N.Nodup) (hi : X.N[i]? = some x := by rfl) (hx : Loc X.env.scope x := by first | exact Or.inl rfl | exact Or.inr rfl) (hf : X.fn x = true ∨ X.env.scope.names.lookup x = some .local := by first | exact .inl rfl | exact .inr rfl | assumption) : GM X F W (.Name x pos) [i] (gNam i) :=
  PG.imp (pg_name hN hi hx hf) fun v σ H Q ⟨Φ, τ, tm, s, na, nt, r, h⟩ => h _ _ _ (r.store na nt i) ⟨List.length_set, fun j hj => List.getElem?_set_ne (fun e => hj (by rw [e]; exact List.mem_singleton.mpr rfl))⟩
/-- the items of a list or tuple that is unpacked -/
def unpk (n : Nat) : D → Option (List D)
  | .tup ds => if ds.length = n then some ds else none
  | .lst ds => if ds.length = n then some ds else none
  | _ => none
def gsEnd : List D → M Unit
  | [] => M.ret ()
  | _ :: _ => fun _ => .stuck
def gsCons (g : MG) (gs : List D → M Unit) : List D → M Unit
  | d :: ds => M.bnd (g (.val d)) fun _ => gs ds
  | [] => fun _ => .stuck
theorem gsm_nil : PGs X [] (TGsm F W [] gsEnd) := PGs.imp pgs_nil fun vs σ H Q ⟨Φ, τ, tm, ds, l, nt, r, h⟩ => by
  cases ds with
  | nil =>
    have e : vs = [] := List.length_eq_zero_iff.mp l
    subst e
    exact ⟨rfl, h σ H Φ r ⟨rfl, fun _ _ => rfl⟩⟩
  | cons _ _ => exact h.elim
theorem quiet_air {vs : List V} {ds : List D} (nt : Quiet tm) : Quiet (air vs ds ++ tm) := fun p hp => by
  rcases List.mem_append.mp hp with h | h
  · have := (List.of_mem_zip h).2
    obtain ⟨d, _, e⟩ := List.mem_map.mp this
    rw [← e]
    trivial
  · exact nt p h
theorem gsm_cons {t : Expr} {ts : List Expr} {is js : List Nat} {g : MG} {gs : List D → M Unit} (h1 : GM X F W t is g) (h2 : PGs X ts (TGsm F W js gs)) (hs : (assignEach (t :: ts) X.env).map (·.2) = assign t X.env :: (assignEach ts X.env).map (·.2) := by rfl) : PGs X (t :: ts) (TGsm F W (is ++ js) (gsCons g gs)) :=
  PGs.imp (pgs_cons h1 h2 hs) fun vs σ H Q ⟨Φ, τ, tm, ds, l, nt, r, h⟩ => by
    cases ds with
    | nil => exact h.elim
    | cons d ds =>
      cases vs with
      | nil => cases l
      | cons v vs =>
        exact ⟨v, vs, rfl, Φ, τ, air vs ds ++ tm, .val d, trivial, quiet_air nt, r, ((Wp.bnd h).air (Subp.app' (Subp.of (List.Sublist.refl _)))).mono fun _ τ1 p σ1 H1 Φ1 r1 b1 => ⟨Φ1, τ1, tm, ds, by simpa using l, nt, r1, Wp.mono p fun _ τ2 q σ2 H2 Φ2 r2 b2 => q σ2 H2 Φ2 r2 (b1.trans b2)⟩⟩
theorem Rl.vals (r : Rl F Φ H σ τ tm) : ∀ {vs : List V} {ds : List D}, FzL F.G Φ vs ds → Rl F Φ H σ τ (Mi.air vs ds ++ tm)
  | _, _, .nil => r
  | _, _, .cons h t => (Rl.vals r t).val h
/-- (a, b, ..) = a tuple, or a list, of that length -/
def gTupM (n : Nat) (gs : List D → M Unit) : MG := fun s => M.bnd (peek s) fun d => M.bnd (M.of (unpk n d)) gs
theorem gm_tup {es : List Expr} {k : Nat} {is : List Nat} {gs : List D → M Unit} (n : Nat) (hK : X.K = F.G.K) (hc : X.calm = true) (h : PGs X es (TGsm F W is gs)) (hn : (assignEach es X.env).length = n := by rfl) (hst : (assignEach es X.env).findIdx? (·.1) = none := by rfl) : GM X F W (.Tuple es k pos) is (gTupM n gs) := by
  have two : PG X (.Tuple es k pos) (fun v σ H Q => gTup X.K n (TGsm F W is gs) v σ H Q ∨ gLst X.K n (TGsm F W is gs) v σ H Q) := ⟨fun pins s σ H v u Q I r q => q.elim (fun q => (pg_tup hc h hn hst).run pins s σ H v u Q I r q) fun q => (pg_lst hc h hn hst).run pins s σ H v u Q I r q⟩
  refine PG.imp two fun v σ H Q ⟨Φ, τ, tm, s, na, nt, r, h⟩ => ?_
  obtain ⟨d, e1, h1⟩ := Wp.peek (Wp.bnd h)
  obtain ⟨ds, e2, h2⟩ := Wp.of (Wp.bnd h1)
  have rd := r.peek r.hd e1
  unfold unpk at e2
  split at e2
  · split at e2
    · rename_i hz
      cases e2
      obtain ⟨a, vs, e3, e4, q⟩ := rd.tup r.le
      exact .inl ⟨a, vs, e3, by rw [hK]; exact e4, by rw [q.length]; exact hz, Φ, τ, tm, ds, q.length, nt, r.tl.vals q, h2⟩
    · cases e2
  · split at e2
    · rename_i hz
      cases e2
      obtain ⟨a, vs, e3, e4, q⟩ := rd.lst r.le
      exact .inr ⟨a, vs, e3, .inl (.inl e4), by rw [q.length]; exact hz, Φ, τ, tm, ds, q.length, nt, r.tl.vals q, h2⟩
    · cases e2
  · cases e2
/-- target = value -/
def sAsgT (g : MG) (ma : M S) : M Fl := M.bnd ma fun s => M.bnd (give s) fun s' => M.bnd (g s') fun _ => M.ret .nx
theorem sm_asg {t : Expr} {is : List Nat} {g : MG} (he : EM X F W e ma) (hg : GM X F W t is g) (hs : swapsWithSole [t] e pos.line X.env = pure false := by rfl) (hw : swappedStores [t] e X.env = pure none := by rfl)
    (h1 : (assignEach [t] X.env).map (·.2) = [assign t X.env] := by rfl) : SM X F W (.Assign [t] e pos) (sAsgT g ma) := PS.imp (ps_asg he hg hs hw h1) fun D σ H ⟨Φ, τ, tm, qt, r, h⟩ => te_go r h.bnd fun s τ1 v H1 Φ1 p r1 => by
  obtain ⟨s', τ2, Φ2, na, r2, k⟩ := give_cases r1 p.bnd
  exact ⟨Φ2, τ2, tm, s', na, qt, r2, (Wp.bnd k).mono fun _ τ3 p σ3 H3 Φ3 r3 _ => p σ3 H3 Φ3 r3⟩
/-- a, b = x, y with plain local names -/
def sPar (i j : Nat) (ms : M (List S)) : M Fl := M.bnd ms fun ss => match ss with
  | [s, t] => M.bnd (give s) fun s' => M.bnd (give t) fun t' => fun τ => .ok (.nx, (τ.set i s').set j t')
  | _ => fun _ => .stuck
theorem sm_par (i j : Nat) {x y : Str} {a b : Expr} {ms : M (List S)} {px py pt : Pos} {kt k2 pt2} (hc : X.calm = true) (hN : X.N.Nodup) (ha : LM X F W [a, b] ms) (hi : X.N[i]? = some x := by rfl) (hj : X.N[j]? = some y := by rfl) (hij : i ≠ j := by decide)
    (hx : X.env.scope.names.lookup x = some .local := by rfl) (hy : X.env.scope.names.lookup y = some .local := by rfl)
    (hw : swappedStores [.Tuple [.Name x px, .Name y py] kt pt] (.Tuple [a, b] k2 pt2) X.env = pure (some [x, y]) := by rfl)
    (hs : swapsWithSole [.Tuple [.Name x px, .Name y py] kt pt] (.Tuple [a, b] k2 pt2) pos.line X.env = pure false := by rfl) :
    SM X F W (.Assign [.Tuple [.Name x px, .Name y py] kt pt] (.Tuple [a, b] k2 pt2) pos) (sPar i j ms) := PS.imp (ps_par hc hN hi hj hij hx hy ha hw hs) fun D σ H ⟨Φ, τ, tm, qt, r, h⟩ => tl_go r h.bnd fun ss τ1 vs H1 Φ1 p l r1 => by
  cases ss with
  | nil => exact p.elim
  | cons s ss =>
    cases ss with
    | nil => exact p.elim
    | cons t ss =>
      cases ss with
      | cons _ _ => exact p.elim
      | nil =>
        obtain ⟨v, w, rfl⟩ : ∃ v w, vs = [v, w] := by
          cases vs with
          | nil => cases l
          | cons v vs =>
            cases vs with
            | nil => cases l
            | cons w vs =>
              cases vs with
              | nil => exact ⟨v, w, rfl⟩
              | cons _ _ => cases l
        refine ⟨v, w, rfl, ?_⟩
        obtain ⟨s', τ2, Φ2, n1, r2, k1⟩ := give_cases r1 (Wp.bnd p)
        obtain ⟨t', τ3, Φ3, n2, r3, k2⟩ := give_cases (tm := (some v, s') :: tm) (r2.air (.perm (List.Perm.swap _ _ _))) (Wp.bnd k1)
        have r4 := (r3.air (tm' := (some v, s') :: (some w, t') :: tm) (.perm (List.Perm.swap _ _ _))).store n1 (fun p hp => by
          cases hp with
          | head => exact n2
          | tail _ h => exact qt p h) i
        exact k2 _ _ _ (r4.store n2 qt j)
end
end Mi

/-! ### M6: what is ours is written; defs and their calls -/
namespace Mi
open PySem PySem.Spec PyProof.Rows L2

/-- the same kind of slot with another content -/
inductive Kin : S → S → O → O → Prop
  | own (o o' : O) : Kin (.own o) (.own o') o o'
  | lent (j : Nat) (o o' : O) : Kin (.lent j o) (.lent j o') o o'
section
variable {F : Fm} {W : WX} {Φ Φ' H H' : Hp} {σ : L2.St} {τ τ' : List S} {tm : Env1}
theorem Rl.write (r : Rl F Φ H σ τ tm) {k : Nat} {s s' : S} {a : Addr} {o o' : O} (e : τ[k]? = some s) (es : σ[k]? = some (some (.ref a))) (ks : Kin s s' o o') (l : Le Φ Φ') (l' : Le Φ' H')
    (kp : ∀ b u, H b = some u → b ≠ a → (∀ ps, u ≠ .tbl ps) → H' b = some u) (n : ∀ b u, Φ' b = some u → Φ b = some u ∨ H b = none) (t : TabsN F.G.T Φ' H') (d : ∀ b, H' b = none → H b = none)
    (w : Ow F.G Φ' H' a o') (fa : Φ' a = none) : Rl F Φ' H' σ (τ.set k s') tm := by
  have hi : k < τ.length := (List.getElem?_eq_some_iff.mp e).1
  have hs : σ.set k (some (V.ref a)) = σ := by
    apply List.ext_getElem?
    intro j
    by_cases hj : k = j
    · subst hj
      rw [List.getElem?_set_self (by rw [r.len]; exact hi)]
      exact es.symm
    · rw [List.getElem?_set_ne hj]
  have hz : σ.zip (τ.set k s') = (σ.zip τ).set k (some (.ref a), s') := by
    rw [← zip_set, hs]
  have ix : (σ.zip τ)[k]? = some (some (.ref a), s) := by
    rw [List.getElem?_zip_eq_some]
    exact ⟨es, e⟩
  have hit : k < (σ.zip τ).length := (List.getElem?_eq_some_iff.mp ix).1
  have sz : both σ (τ.set k s') tm = (both σ τ tm).set k (some (.ref a), s') := by
    show σ.zip (τ.set k s') ++ tm = (σ.zip τ ++ tm).set k _
    rw [hz, List.set_append_left _ _ hit]
  have ei : (both σ τ tm)[k]? = some (some (.ref a), s) := by
    rw [List.getElem?_append_left hit]; exact ix
  obtain ⟨li, gi⟩ := List.getElem?_eq_some_iff.mp ei
  have hold : holds (some (.ref a), s) = some a := by cases ks <;> rfl
  have hold' : holds (some (.ref a), s') = some a := by cases ks <;> rfl
  have na : s'.noali := by cases ks <;> trivial
  have one0 : One F Φ H σ τ (some (.ref a), s) := r.one _ (List.mem_of_getElem? ei)
  have ow : ∃ o, Ow F.G Φ H a o := (one0.own hold).2
  have ap : ∀ (j : Nat) p, (both σ τ tm)[j]? = some p → j ≠ k → holds p ≠ some a := fun j p hj ne => by
    have pw := List.pairwise_iff_getElem.mp r.nd
    obtain ⟨lj, gj⟩ := List.getElem?_eq_some_iff.mp hj
    intro hp
    rcases Nat.lt_or_gt_of_ne ne with q | q
    · have := pw j k lj li q
      rw [gi, gj] at this
      exact this a hp hold
    · have := pw k j li lj q
      rw [gi, gj] at this
      exact this a hold hp
  have nota : ∀ b u, F.H0 b = some u → (∀ j, F.P j ≠ some b) → b ≠ a := fun b u h1 h2 q => by
    subst q
    cases ks with
    | own => obtain ⟨x, e1, _, _, e2⟩ := one0; cases e1; rw [h1] at e2; cases e2
    | lent j => obtain ⟨x, e1, _, _, e2⟩ := one0; cases e1; exact h2 j e2
  refine ⟨by rw [List.length_set]; exact r.len, r.fl.set na k, r.le0.trans l, l', fun b u h1 h2 h3 => kp b u (r.pres b u h1 h2 h3) (nota b u h1 h2) h3, fun b h => r.dom b (d b h), fun b u h => ?_, fun p hp => ?_, ?_, t⟩
  · rcases n b u h with q | q
    · exact r.new b u q
    · exact .inr (r.dom b q)
  · rw [sz] at hp
    obtain ⟨j, lj, gj⟩ := List.getElem_of_mem hp
    rw [List.length_set] at lj
    by_cases hj : k = j
    · subst hj
      rw [List.getElem_set_self] at gj
      rw [← gj]
      cases ks with
      | own => obtain ⟨x, e1, _, _, e2⟩ := one0; cases e1; exact ⟨a, rfl, w, fa, e2⟩
      | lent i => obtain ⟨x, e1, _, _, e2⟩ := one0; cases e1; exact ⟨a, rfl, w, fa, e2⟩
    · rw [List.getElem_set_ne hj] at gj
      have gj' : (both σ τ tm)[j]? = some p := by rw [List.getElem?_eq_getElem lj, gj]
      have op := r.one p (by rw [← gj]; exact List.getElem_mem _)
      have o1 : One F Φ' H' σ τ p := op.step l fun b hb => by
        have ne : b ≠ a := fun q => ap j p gj' (Ne.symm hj) (by rw [← q]; exact hb)
        refine ⟨fun u h1 h2 => kp b u h1 ne h2, ?_⟩
        obtain ⟨q1, ob, q2⟩ := op.own hb
        obtain ⟨u, q3, _⟩ := q2.there
        cases q : Φ' b with
        | none => rfl
        | some z =>
          rcases n b z q with y | y
          · rw [q1] at y; cases y
          · rw [q3] at y; cases y
      obtain ⟨pv, ps⟩ := p
      cases ps with
      | ali i =>
        obtain ⟨x, s2, f1, f2, f3, f4⟩ := o1
        by_cases hk : k = i
        · subst hk
          refine ⟨x, s', f1, f2, ?_, ?_⟩
          · rw [List.getElem?_set_self hi]
          · cases ks <;> trivial
        · exact ⟨x, s2, f1, f2, by rw [List.getElem?_set_ne hk]; exact f3, f4⟩
      | raw => exact o1
      | non => exact o1
      | val _ => exact o1
      | own _ => exact o1
      | lent _ _ => exact o1
  · rw [sz, List.pairwise_iff_getElem]
    have pw := List.pairwise_iff_getElem.mp r.nd
    intro i j hi' hj' lt
    rw [List.length_set] at hi' hj'
    by_cases h1 : k = i
    · subst h1
      rw [List.getElem_set_self, List.getElem_set_ne (by omega)]
      intro b hb hq
      rw [hold'] at hb
      cases hb
      exact ap j _ (List.getElem?_eq_getElem hj') (by omega) hq
    · rw [List.getElem_set_ne h1]
      by_cases h2 : k = j
      · subst h2
        rw [List.getElem_set_self]
        intro b hb hq
        rw [hold'] at hq
        cases hq
        exact ap i _ (List.getElem?_eq_getElem hi') (by omega) hb
      · rw [List.getElem_set_ne h2]
        exact pw i j hi' hj' lt
theorem tabs_write {T : List (Addr × Str)} {a : Addr} {u u' : HO} (t : LamX.Tabs T H) (h : H a = some u) (h1 : ∀ ps, u ≠ .tbl ps) (h2 : ∀ φ, u ≠ .ext φ) : LamX.Tabs T (upd H a u') := fun p hp => by
  obtain ⟨ps, e1, e2, e3⟩ := t p hp
  have n1 : p.1 ≠ a := fun q => by
    rw [q, h] at e1
    cases e1
    exact h1 ps rfl
  refine ⟨ps, by rw [upd_ne n1]; exact e1, e2, fun pos cv hc => ?_⟩
  obtain ⟨c, e4, e5⟩ := e3 pos cv hc
  have n2 : c ≠ a := fun q => by
    rw [q, h] at e5
    cases e5
    exact h2 _ rfl
  exact ⟨c, e4, by rw [upd_ne n2]; exact e5⟩
/-- one object of ours is written -/
theorem Rl.wrote (r : Rl F Φ H σ τ tm) {k : Nat} {s s' : S} {a : Addr} {o o' : O} {u u' : HO} (e : τ[k]? = some s) (es : σ[k]? = some (some (.ref a))) (ks : Kin s s' o o') (h : H a = some u) (h1 : ∀ ps, u ≠ .tbl ps) (h2 : ∀ φ, u ≠ .ext φ) (w : Ow F.G Φ (upd H a u') a o') : Rl F Φ (upd H a u') σ (τ.set k s') tm := by
  have hold : holds (some (.ref a), s) = some a := by cases ks <;> rfl
  obtain ⟨v, e1, em, o1⟩ := r.at e
  rw [es] at e1
  cases e1
  have fa := (o1.own hold).1
  exact r.write e es ks (Le.refl _) (fun b z q => by
    rw [upd_ne (fun x => by rw [x, fa] at q; cases q)]
    exact r.le _ _ q) (fun b z q ne _ => by rw [upd_ne ne]; exact q) (fun b z q => .inl q) ⟨tabs_write r.tabs.1 h h1 h2, r.tabs.2⟩ (fun b q => by
    by_cases x : b = a
    · subst x; rw [upd_same] at q; cases q
    · rw [upd_ne x] at q; exact q) w fa

/-! #### the promise of a def -/
def argS : S → Prop
  | .val _ => True
  | .lent _ _ => True
  | _ => False
abbrev Fn := List S → R (S × List S)
def spM (G : Gx) (n : Nat) (mf : Fn) : Sp := fun vs H Q E => ∃ Φ P ss, ss.length = n ∧ Rl ⟨G, Φ, H, P, none⟩ Φ H (vs.map some) ss [] ∧ (∀ s ∈ ss, argS s) ∧ match mf ss with
  | .ok (r, ss') => ∀ v H' Φ', Rl ⟨G, Φ, H, P, none⟩ Φ' H' (vs.map some) ss' [(some v, r)] → Q v H'
  | .exc c fs ss' => ∀ cls d H' Φ', Rl ⟨G, Φ, H, P, none⟩ Φ' H' (vs.map some) ss' [] → ExR ⟨G, Φ, H, P, none⟩ Φ' H' cls d c fs → E cls d H'
  | .stuck => False
/-- what was lent, as it is handed back -/
def back : List S → List S → Option (List S)
  | [], _ => some []
  | .lent j _ :: ss, .lent j' o :: τ => if j = j' then (back ss τ).map (.lent j o :: ·) else none
  | .lent _ _ :: _, _ => none
  | _ :: ss, _ :: τ => (back ss τ).map (.non :: ·)
  | _ :: _, [] => none
def retS : S → Bool
  | .val _ => true
  | .own _ => true
  | _ => false
def runFn (np n : Nat) (m : M Fl) : Fn := fun ss => if ¬ ss.length = np then .stuck else match m (ss ++ List.replicate (n - ss.length) .non) with
  | .ok (f, τ) => (match f with
    | .nx => (match back ss τ with
      | some ss' => .ok (.val .non, ss')
      | none => .stuck)
    | .rt s => if retS s = true then (match back ss τ with
      | some ss' => .ok (s, ss')
      | none => .stuck) else .stuck
    | _ => .stuck)
  | .exc c fs τ => (match back ss τ with
    | some ss' => .exc c fs ss'
    | none => .stuck)
  | .stuck => .stuck
/-- item by item the same, or nothing of ours -/
inductive Thin : Env1 → Env1 → Prop
  | nil (l : Env1) : Thin l l
  | keep {p : Option V × S} {l' l : Env1} : Thin l' l → Thin (p :: l') (p :: l)
  | drop {p q : Option V × S} {l' l : Env1} : p.2 = .non → Thin l' l → Thin (p :: l') (q :: l)
  | skip {q : Option V × S} {l' l : Env1} : Thin l' l → Thin l' (q :: l)
theorem Thin.mem {l' l : Env1} (h : Thin l' l) : ∀ p ∈ l', p ∈ l ∨ p.2 = .non := by
  induction h with
  | nil l => exact fun p hp => .inl hp
  | keep _ ih =>
    intro p hp
    rcases List.mem_cons.mp hp with e | hp
    · rw [e]; exact .inl List.mem_cons_self
    · exact (ih p hp).imp (List.mem_cons_of_mem _) id
  | drop e _ ih =>
    intro p hp
    rcases List.mem_cons.mp hp with e' | hp
    · rw [e']; exact .inr e
    · exact (ih p hp).imp (List.mem_cons_of_mem _) id
  | skip _ ih => exact fun p hp => (ih p hp).imp (List.mem_cons_of_mem _) id
theorem holds_non' {p : Option V × S} (h : p.2 = .non) : holds p = none := by
  obtain ⟨v, s⟩ := p
  simp only at h
  subst h
  exact holds_non
theorem Thin.pw {l' l : Env1} (h : Thin l' l) (w : l.Pairwise Apart) : l'.Pairwise Apart := by
  induction h with
  | nil l => exact w
  | keep t ih =>
    obtain ⟨w1, w2⟩ := List.pairwise_cons.mp w
    refine List.pairwise_cons.mpr ⟨fun q hq => ?_, ih w2⟩
    rcases t.mem q hq with z | z
    · exact w1 q z
    · exact (apart_none (holds_non' z)).symm
  | drop e t ih => exact List.pairwise_cons.mpr ⟨fun q hq => apart_none (holds_non' e), ih (List.pairwise_cons.mp w).2⟩
  | skip _ ih => exact ih (List.pairwise_cons.mp w).2
theorem Thin.one {l' l : Env1} (h : Thin l' l) (w : ∀ p ∈ l, One F Φ H σ τ p) : ∀ p ∈ l', One F Φ H σ τ p := fun p hp => by
  rcases h.mem p hp with z | z
  · exact w p z
  · obtain ⟨v, s⟩ := p
    simp only at z
    subst z
    trivial
theorem Thin.skips : ∀ (k l : Env1), Thin l (k ++ l)
  | [], l => .nil l
  | _ :: k, l => .skip (Thin.skips k l)
/-- what was lent stands where it stood -/
def LentAt (P : Nat → Option Addr) : List V → List S → Prop
  | v :: vs, .lent j _ :: ss => (∃ a, v = .ref a ∧ P j = some a) ∧ LentAt P vs ss
  | _ :: vs, _ :: ss => LentAt P vs ss
  | _, _ => True
theorem back_thin : ∀ {vs : List V} {ss τ ss' : List S} {σ : L2.St} {tm : Env1}, vs.length = ss.length → σ.length = τ.length → LentAt F.P vs ss → back ss τ = some ss' → (∀ p ∈ σ.zip τ, ∀ j o, p.2 = .lent j o → ∃ a, p.1 = some (.ref a) ∧ F.P j = some a) →
    Thin ((vs.map some).zip ss' ++ tm) (σ.zip τ ++ tm) ∧ ss'.length = vs.length ∧ Flat ss'
  | vs, [], τ, ss', σ, tm, l, _, _, e, _ => by
    cases e
    have : vs = [] := List.length_eq_zero_iff.mp l
    subst this
    exact ⟨Thin.skips _ _, rfl, fun _ h => nomatch h⟩
  | [], _ :: _, _, _, _, _, l, _, _, _, _ => by cases l
  | v :: vs, s :: ss, [], ss', σ, tm, l, _, _, e, _ => by cases s <;> cases e
  | v :: vs, s :: ss, t :: τ, ss', [], tm, l, l2, _, e, _ => by cases l2
  | v :: vs, s :: ss, t :: τ, ss', x :: σ, tm, l, l2, la, e, pl => by
    have pl' : ∀ p ∈ σ.zip τ, ∀ j o, p.2 = .lent j o → ∃ a, p.1 = some (.ref a) ∧ F.P j = some a := fun p hp => pl p (List.mem_cons_of_mem _ hp)
    have plain : ∀ ss1, back ss τ = some ss1 → ss' = .non :: ss1 → LentAt F.P vs ss → Thin (((v :: vs).map some).zip ss' ++ tm) ((x :: σ).zip (t :: τ) ++ tm) ∧ ss'.length = (v :: vs).length ∧ Flat ss' := fun ss1 e1 e2 la1 => by
      subst e2
      obtain ⟨h1, h2, h3⟩ := back_thin (tm := tm) (by simpa using l) (by simpa using l2) la1 e1 pl'
      refine ⟨.drop rfl h1, by simp [h2], fun s hs => ?_⟩
      rcases List.mem_cons.mp hs with q | q
      · rw [q]; trivial
      · exact h3 s q
    have go : ∀ {o : Option (List S)}, (o.map (S.non :: ·)) = some ss' → ∃ ss1, o = some ss1 ∧ ss' = .non :: ss1 := fun {o} h => by
      obtain ⟨a, b, c⟩ := Option.map_eq_some_iff.mp h
      exact ⟨a, b, c.symm⟩
    cases s with
    | lent j o =>
      cases t with
      | lent j' o' =>
        unfold back at e
        split at e
        · rename_i ej
          subst ej
          obtain ⟨ss1, e1, e2⟩ := Option.map_eq_some_iff.mp e
          subst e2
          obtain ⟨⟨a, ea, pa⟩, la1⟩ := la
          obtain ⟨h1, h2, h3⟩ := back_thin (tm := tm) (by simpa using l) (by simpa using l2) la1 e1 pl'
          obtain ⟨b, eb, pb⟩ := pl (x, .lent j o') List.mem_cons_self j o' rfl
          rw [pa] at pb
          cases pb
          simp only at eb
          subst eb ea
          refine ⟨.keep h1, by simp [h2], fun s hs => ?_⟩
          rcases List.mem_cons.mp hs with q | q
          · rw [q]; trivial
          · exact h3 s q
        · cases e
      | _ => cases e
    | raw => obtain ⟨ss1, e1, e2⟩ := go (show (back ss τ).map _ = _ from e); exact plain ss1 e1 e2 la
    | non => obtain ⟨ss1, e1, e2⟩ := go (show (back ss τ).map _ = _ from e); exact plain ss1 e1 e2 la
    | val d => obtain ⟨ss1, e1, e2⟩ := go (show (back ss τ).map _ = _ from e); exact plain ss1 e1 e2 la
    | own o => obtain ⟨ss1, e1, e2⟩ := go (show (back ss τ).map _ = _ from e); exact plain ss1 e1 e2 la
    | ali i => obtain ⟨ss1, e1, e2⟩ := go (show (back ss τ).map _ = _ from e); exact plain ss1 e1 e2 la
theorem lentAt_of : ∀ {vs : List V} {ss : List S}, (∀ p ∈ (vs.map some).zip ss, ∀ j o, p.2 = .lent j o → ∃ a, p.1 = some (.ref a) ∧ F.P j = some a) → LentAt F.P vs ss
  | [], _, _ => trivial
  | _ :: _, [], _ => trivial
  | v :: vs, s :: ss, h => by
    have ih := lentAt_of (vs := vs) (ss := ss) fun p hp => h p (List.mem_cons_of_mem _ hp)
    cases s with
    | lent j o =>
      obtain ⟨a, e, p⟩ := h (some v, .lent j o) List.mem_cons_self j o rfl
      cases e
      exact ⟨⟨a, rfl, p⟩, ih⟩
    | raw => exact ih
    | non => exact ih
    | val _ => exact ih
    | own _ => exact ih
    | ali _ => exact ih
theorem Rl.lents (r : Rl F Φ H σ τ tm) : ∀ p ∈ σ.zip τ, ∀ j o, p.2 = .lent j o → ∃ a, p.1 = some (.ref a) ∧ F.P j = some a := fun p hp j o e => by
  have q := r.one p (List.mem_append_left _ hp)
  obtain ⟨v, s⟩ := p
  simp only at e
  subst e
  obtain ⟨a, e1, _, _, e2⟩ := q
  exact ⟨a, e1, e2⟩
theorem Rl.backed (r : Rl F Φ H σ τ tm) (nt : Quiet tm) {vs : List V} {ss ss' : List S} (l : vs.length = ss.length) (la : LentAt F.P vs ss) (e : back ss τ = some ss') : Rl F Φ H (vs.map some) ss' tm := by
  obtain ⟨h1, h2, h3⟩ := back_thin (tm := tm) l r.len la e r.lents
  refine ⟨by rw [List.length_map, h2], h3, r.le0, r.le, r.pres, r.dom, r.new, fun p hp => ?_, h1.pw r.nd, r.tabs⟩
  refine (h1.one r.one p hp).slots ?_
  rcases List.mem_append.mp hp with q | q
  · exact h3 _ (List.of_mem_zip q).2
  · exact nt p q
theorem zip_replicate {α β : Type} (x : α) (y : β) (n : Nat) : (List.replicate n x).zip (List.replicate n y) = List.replicate n (x, y) := by
  induction n with
  | zero => rfl
  | succ n ih => rw [List.replicate_succ, List.replicate_succ, List.replicate_succ, List.zip_cons_cons, ih]
theorem Rl.start (r : Rl F Φ H (vs.map some) ss []) (N : List Str) (hf : ∀ s ∈ ss, argS s) : Rl F Φ H (L2.start N vs) (ss ++ List.replicate (N.length - ss.length) .non) [] := by
  have l : vs.length = ss.length := by simpa using r.len
  have z : (L2.start N vs).zip (ss ++ List.replicate (N.length - ss.length) .non) = (vs.map some).zip ss ++ List.replicate (N.length - ss.length) (none, S.non) := by
    unfold L2.start
    rw [l, List.zip_append (by simp [l]), zip_replicate]
  have nn : ∀ p ∈ List.replicate (N.length - ss.length) ((none : Option V), S.non), p = (none, .non) := fun p hp => List.eq_of_mem_replicate hp
  refine ⟨by unfold L2.start; simp [l], fun s hs => ?_, r.le0, r.le, r.pres, r.dom, r.new, fun p hp => ?_, ?_, r.tabs⟩
  · rcases List.mem_append.mp hs with q | q
    · exact r.fl s q
    · rw [List.eq_of_mem_replicate q]; trivial
  · rw [both, List.append_nil, z] at hp
    rcases List.mem_append.mp hp with q | q
    · exact (r.one p (List.mem_append_left _ q)).slots (r.fl _ (List.of_mem_zip q).2)
    · rw [nn p q]; trivial
  · rw [both, List.append_nil, z, List.pairwise_append]
    refine ⟨(List.pairwise_append.mp r.nd).1, ?_, fun p _ q hq => ?_⟩
    · refine List.Pairwise.imp_of_mem (fun {a b} ha _ _ => ?_) (List.pairwise_replicate.mpr (.inr trivial) : (List.replicate _ ((none : Option V), S.non)).Pairwise (fun _ _ => True))
      rw [nn a ha]
      exact apart_none rfl
    · rw [nn q hq]
      exact (apart_none (p := ((none : Option V), S.non)) rfl).symm
end

/-- a body, mirrored, keeps the promise -/
theorem body_sp {P : Program} {w : World} {mg : Str → Option Value} {base : Heap} {G : Gx} {qual : Str} {scope : Scope} {bdy : List Stmt} {f : Addr} {N ps : List Str} {k : Nat} {m : M Fl} {cdv : Value} (Sc : FnScope N ps scope) {A : Around} {outer : List Env} {s : Shared} {vs : List V} {H : Hp} {Q : VK} {E : XK}
    (hr : Room k (A.deeper (envOfC qual scope s.heap.objs.size f cdv))) (h : spM G ps.length (runFn ps.length N.length m) vs H Q E)
    (body : ∀ (F : Fm), F.G = G → Fits (cxOf (L2.CX P w) P w G.K mg base N qual scope f cdv A outer s H E) F (fun cls d _ H => E cls d H) → BlM (cxOf (L2.CX P w) P w G.K mg base N qual scope f cdv A outer s H E) F (fun cls d _ H => E cls d H) bdy m) :
    ∃ t, PSs (cxOf (L2.CX P w) P w G.K mg base N qual scope f cdv A outer s H E) bdy t ∧ t { nx := fun _ H' => Q .non H', rt := Q } (L2.start N vs) H := by
  obtain ⟨Φ, Pl, ss, l, r, ha, h⟩ := h
  have tk : Takes (cxOf (L2.CX P w) P w G.K mg base N qual scope f cdv A outer s H E) (fun cls d _ H => E cls d H) := takes_of rfl rfl rfl rfl
  have po : PassesOwn (model P w) (cxOf (L2.CX P w) P w G.K mg base N qual scope f cdv A outer s H E).A (cxOf (L2.CX P w) P w G.K mg base N qual scope f cdv A outer s H E).env (cxOf (L2.CX P w) P w G.K mg base N qual scope f cdv A outer s H E).xe := passes_of (X := cxOf (L2.CX P w) P w G.K mg base N qual scope f cdv A outer s H E) rfl
  refine ⟨_, body ⟨G, Φ, H, Pl, none⟩ rfl ⟨rfl, Sc.nd, rfl, tk, po⟩, Φ, _, [], (fun _ h => nomatch h), r.start N ha, ?_⟩
  have lv : vs.length = ss.length := by simpa using r.len
  have la : LentAt Pl vs ss := lentAt_of (F := ⟨G, Φ, H, Pl, none⟩) r.lents
  generalize hm : m (ss ++ List.replicate (N.length - ss.length) .non) = o
  unfold runFn at h
  rw [if_neg (Decidable.not_not.mpr l), hm] at h
  cases o with
  | stuck => exact h.elim
  | exc c fs τ =>
    intro cls d σ' H' Φ' r' x'
    cases e : back ss τ with
    | none => simp only [e] at h
    | some ss' =>
      simp only [e] at h
      exact h cls d H' Φ' (r'.backed (fun _ h => nomatch h) lv la e) x'
  | ok p =>
    obtain ⟨f, τ⟩ := p
    cases f with
    | bk => exact h.elim
    | ct => exact h.elim
    | nx =>
      intro σ' H' Φ' r'
      cases e : back ss τ with
      | none => simp only [e] at h
      | some ss' =>
        simp only [e] at h
        exact h .non H' Φ' ((r'.backed (fun _ h => nomatch h) lv la e).val .non)
    | rt s' =>
      intro v σ' H' Φ' r'
      cases q : retS s' with
      | false => simp only [q, Bool.false_eq_true, if_false] at h
      | true =>
        simp only [q, if_true] at h
        cases e : back ss τ with
        | none => simp only [e] at h
        | some ss' =>
          simp only [e] at h
          refine h v H' Φ' (r'.backed (fun p hp => ?_) lv la e)
          cases hp with
          | head => cases s' <;> first | trivial | cases q
          | tail _ hp => cases hp
end Mi

/-! ### M7: calls of defs -/
namespace Mi
open PySem PySem.Spec PyProof.Rows L2

/-- f(..), every argument a plain value -/
def eCallV (mf : Fn) (ms : M (List S)) : M S := M.bnd ms fun ss => M.bnd (takeAll ss) fun ds => fun τ => match mf (ds.map S.val) with
  | .ok (r, _) => .ok (r, τ)
  | .exc c fs _ => .exc c fs τ
  | .stuck => .stuck
/-- how what was lent comes back into the slot k -/
def hand (k : Nat) (mk : O → S) (τ : List S) (out : List S) : Option (List S) := match out with
  | .lent _ o :: _ => some (τ.set k (mk o))
  | _ => none
def lendTo (mf : Fn) (k : Nat) (o : O) (mk : O → S) (ds : List D) (τ : List S) : R (S × List S) := match mf (.lent 0 o :: ds.map S.val) with
  | .ok (r, out) => (match hand k mk τ out with
    | some τ' => .ok (r, τ')
    | none => .stuck)
  | .exc c fs out => (match hand k mk τ out with
    | some τ' => .exc c fs τ'
    | none => .stuck)
  | .stuck => .stuck
/-- f(x, ..), the first argument lent -/
def eCallL (mf : Fn) (ms : M (List S)) : M S := M.bnd ms fun ss => match ss with
  | .ali k :: rest => M.bnd (takeAll rest) fun ds => fun τ => match τ[k]? with
    | some (.own o) => lendTo mf k o .own ds τ
    | some (.lent j o) => lendTo mf k o (.lent j) ds τ
    | _ => .stuck
  | _ => fun _ => .stuck
section
variable {F : Fm} {W : WX} {Φ Φ' H H' : Hp} {σ σc : L2.St} {τ τ' ssc : List S} {tm tmc : Env1}
/-- behind a call that was lent nothing -/
theorem Rl.after0 {P : Nat → Option Addr} (r : Rl F Φ H σ τ tm) (c : Rl ⟨F.G, Φ, H, P, none⟩ Φ' H' σc ssc tmc) (hP : ∀ n, P n = none) : Rl F Φ' H' σ τ tm :=
  r.grow c.le0 c.le (fun b o h h2 => c.pres b o h (fun j z => by rw [show (⟨F.G, Φ, H, P, none⟩ : Fm).P j = P j from rfl, hP j] at z; cases z) h2) (fun b o h => c.new b o h) c.tabs c.dom
/-- what the callee hands back joins -/
theorem Rl.handed {P : Nat → Option Addr} {r' : S} {v : V} (r : Rl F Φ' H' σ τ tm) (r0 : ∀ b, H b = none → F.H0 b = none) (there : ∀ p ∈ both σ τ tm, ∀ a, holds p = some a → H a ≠ none) (o : One ⟨F.G, Φ, H, P, none⟩ Φ' H' σc ssc (some v, r')) (n : retS r' = true) : Rl F Φ' H' σ τ ((some v, r') :: tm) := by
  cases r' with
  | val d =>
    obtain ⟨x, e, q⟩ := o
    cases e
    exact r.val q
  | own ob =>
    obtain ⟨a, e, q1, q2, q3⟩ := o
    cases e
    refine r.put (p := (some (.ref a), .own ob)) ⟨a, rfl, q1, q2, r0 a q3⟩ fun q hq b hb hb2 => ?_
    cases hb
    exact there q hq a hb2 q3
  | raw => cases n
  | non => cases n
  | ali i => cases n
  | lent j o => cases n
theorem Rl.there (r : Rl F Φ H σ τ tm) : ∀ p ∈ both σ τ tm, ∀ a, holds p = some a → H a ≠ none := fun p hp a ha z => by
  obtain ⟨_, o, q⟩ := (r.one p hp).own ha
  obtain ⟨u, e, _⟩ := q.there
  rw [z] at e; cases e
theorem runFn_ret {np n : Nat} {m : M Fl} {ss ss' : List S} {r : S} (h : runFn np n m ss = .ok (r, ss')) : retS r = true := by
  unfold runFn at h
  split at h
  · cases h
  split at h
  · split at h
    · split at h
      · cases h; rfl
      · cases h
    · split at h
      · rename_i q
        split at h
        · cases h; exact q
        · cases h
      · cases h
    · cases h
  · split at h <;> cases h
  · cases h
/-- a callee's mirror gives values or what is new -/
def Proper (mf : Fn) : Prop := ∀ ss r ss', mf ss = .ok (r, ss') → retS r = true
theorem proper_run {np n : Nat} {m : M Fl} : Proper (runFn np n m) := fun _ _ _ h => runFn_ret h
theorem arity_run {np n : Nat} {m : M Fl} : ∀ ss, runFn np n m ss ≠ .stuck → ss.length = np := fun ss h => by
  unfold runFn at h
  split at h
  · exact absurd rfl h
  · rename_i z
    exact Decidable.not_not.mp z
/-- the frame of a callee that is lent nothing -/
theorem Rl.enter0 (r : Rl F Φ H σ τ tm) {vs : List V} {ds : List D} (q : FzL F.G Φ vs ds) : Rl ⟨F.G, Φ, H, fun _ => none, none⟩ Φ H (vs.map some) (ds.map S.val) [] := by
  have base : Rl ⟨F.G, Φ, H, fun _ => none, none⟩ Φ H ([] : L2.St) [] [] := ⟨rfl, (fun _ h => nomatch h), Le.refl _, r.le, (fun b o h _ _ => h), (fun b h => h), (fun b o h => .inl h), (fun _ h => nomatch h), List.Pairwise.nil, r.tabs⟩
  have b2 := base.vals q
  rw [List.append_nil] at b2
  refine ⟨by rw [List.length_map, List.length_map, q.length], fun s hs => ?_, b2.le0, b2.le, b2.pres, b2.dom, b2.new, fun p hp => ?_, ?_, b2.tabs⟩
  · obtain ⟨d, _, e⟩ := List.mem_map.mp hs
    rw [← e]; trivial
  · rw [both, List.append_nil] at hp
    refine (b2.one p hp).slots ?_
    obtain ⟨d, _, e⟩ := List.mem_map.mp (List.of_mem_zip hp).2
    rw [← e]; trivial
  · rw [both, List.append_nil]
    exact b2.nd
theorem t_callV {mf : Fn} {ms : M (List S)} {n : Nat} {Q : VK} (pr : Proper mf) (hn : ∀ ds : List D, mf (ds.map S.val) ≠ .stuck → ds.length = n) (h : TEm F W (eCallV mf ms) σ H Q) : TLm F W ms σ H fun vs H1 => spM F.G n mf vs H1 Q (WE W σ) := by
  obtain ⟨Φ, τ, tm, rl, h⟩ := h
  refine tl_go rl h.bnd fun ss τ1 vs H1 Φ1 p1 l r1 => ?_
  obtain ⟨ds, τ2, e, p2⟩ := takeAll_cases (Wp.bnd p1)
  obtain ⟨Φ2, r2, q⟩ := Rl.takenAll l r1 e
  have ne : mf (ds.map S.val) ≠ .stuck := fun z => by
    unfold Wp at p2
    rw [z] at p2
    exact p2
  refine ⟨Φ2, fun _ => none, ds.map S.val, by rw [List.length_map]; exact hn ds ne, r2.enter0 q, fun s hs => ?_, ?_⟩
  · obtain ⟨d, _, e⟩ := List.mem_map.mp hs
    rw [← e]; trivial
  · cases hm : mf (ds.map S.val) with
    | stuck => exact ne hm
    | ok p =>
      obtain ⟨r, out⟩ := p
      rw [hm] at p2
      intro v H' Φ' c
      have r3 := r2.after0 c fun _ => rfl
      exact p2 v H' Φ' (r3.handed (H := H1) (P := fun _ => none) r2.dom (fun p hp a ha => r2.there p hp a ha) c.hd (pr _ _ _ hm))
    | exc c fs out =>
      rw [hm] at p2
      intro cls d H' Φ' c1 x
      have r3 := r2.after0 c1 fun _ => rfl
      exact p2 cls d σ H' Φ' r3 x
theorem Rl.enter1 (r : Rl F Φ H σ τ tm) {vs : List V} {ds : List D} {a : Addr} {o : O} (q : FzL F.G Φ vs ds) (w : Ow F.G Φ H a o) (fa : Φ a = none) : Rl ⟨F.G, Φ, H, fun n => if n = 0 then some a else none, none⟩ Φ H ((V.ref a :: vs).map some) (.lent 0 o :: ds.map S.val) [] := by
  have base : Rl ⟨F.G, Φ, H, fun n => if n = 0 then some a else none, none⟩ Φ H ([] : L2.St) [] [] := ⟨rfl, (fun _ h => nomatch h), Le.refl _, r.le, (fun b o h _ _ => h), (fun b h => h), (fun b o h => .inl h), (fun _ h => nomatch h), List.Pairwise.nil, r.tabs⟩
  have b1 := base.vals q
  rw [List.append_nil] at b1
  have b2 : Rl ⟨F.G, Φ, H, fun n => if n = 0 then some a else none, none⟩ Φ H ([] : L2.St) [] ((some (.ref a), .lent 0 o) :: Mi.air vs ds) := b1.put (p := (some (.ref a), .lent 0 o)) ⟨a, rfl, w, fa, rfl⟩ fun p hp b hb hq => by
    have := (List.of_mem_zip (show p ∈ (vs.map some).zip (ds.map S.val) from hp)).2
    obtain ⟨d, _, e⟩ := List.mem_map.mp this
    obtain ⟨pv, ps⟩ := p
    simp only at e
    subst e
    rw [holds_val] at hq
    cases hq
  have na : ∀ s ∈ (S.lent 0 o :: ds.map S.val), s.noali := fun s hs => by
    rcases List.mem_cons.mp hs with e | hs
    · rw [e]; trivial
    · obtain ⟨d, _, e⟩ := List.mem_map.mp hs
      rw [← e]; trivial
  refine ⟨by simp [q.length], na, b2.le0, b2.le, b2.pres, b2.dom, b2.new, fun p hp => ?_, ?_, b2.tabs⟩
  · rw [both, List.append_nil] at hp
    exact (b2.one p hp).slots (na _ (List.of_mem_zip hp).2)
  · rw [both, List.append_nil]
    exact b2.nd
theorem lend_ok {mf : Fn} {Q : VK} {k : Nat} {o : O} {mk : O → S} {a : Addr} {s : S} {n : Nat} {vs : List V} {ds : List D} (pr : Proper mf) (hn : ds.length + 1 = n) (r : Rl F Φ H σ τ tm) (q : FzL F.G Φ vs ds) (e : τ[k]? = some s) (es : σ[k]? = some (some (.ref a))) (ks : ∀ o', Kin s (mk o') o o')
    (h : Wp F W tm (lendTo mf k o mk ds τ) fun s τ' => ∀ v H' Φ', Rl F Φ' H' σ τ' ((some v, s) :: tm) → Q v H') : spM F.G n mf (.ref a :: vs) H Q (WE W σ) := by
  have hold : holds (some (.ref a), s) = some a := by
    have := ks o
    generalize mk o = mo at this
    cases this <;> rfl
  obtain ⟨v, e1, em, o1⟩ := r.at e
  rw [es] at e1
  cases e1
  have fa := (o1.own hold).1
  have w : Ow F.G Φ H a o := by
    have := ks o
    generalize mk o = mo at this
    cases this with
    | own => obtain ⟨x, e2, w, _⟩ := o1; cases e2; exact w
    | lent => obtain ⟨x, e2, w, _⟩ := o1; cases e2; exact w
  have back : ∀ {Φ' H' : Hp} {out : List S} {τ' : List S} {tmc : Env1}, Rl ⟨F.G, Φ, H, fun n => if n = 0 then some a else none, none⟩ Φ' H' ((V.ref a :: vs).map some) out tmc → hand k mk τ out = some τ' → Rl F Φ' H' σ τ' tm := fun {Φ' H' out τ' tmc} c hh => by
    unfold hand at hh
    split at hh
    · rename_i j o' rest
      cases hh
      obtain ⟨b, e2, w2, fb, pb⟩ := c.one (some (.ref a), .lent j o') (List.mem_append_left _ (by
        show _ ∈ ((some (V.ref a)) :: vs.map some).zip (.lent j o' :: rest)
        exact List.mem_cons_self))
      cases e2
      refine r.write e es (ks o') c.le0 c.le (fun b u h1 ne h2 => c.pres b u h1 (fun j z => ?_) h2) (fun b u h1 => c.new b u h1) c.tabs c.dom w2 fb
      by_cases hj : j = 0
      · have z' : some a = some b := by rw [← z]; exact (if_pos hj).symm
        cases z'; exact ne rfl
      · have z' : none = some b := by rw [← z]; exact (if_neg hj).symm
        cases z'
    · cases hh
  refine ⟨Φ, _, .lent 0 o :: ds.map S.val, by simpa using hn, r.enter1 q w fa, fun s hs => ?_, ?_⟩
  · rcases List.mem_cons.mp hs with e | hs
    · rw [e]; trivial
    · obtain ⟨d, _, e⟩ := List.mem_map.mp hs
      rw [← e]; trivial
  · unfold lendTo at h
    cases hm : mf (.lent 0 o :: ds.map S.val) with
    | stuck => rw [hm] at h; exact h.elim
    | ok p =>
      obtain ⟨r', out⟩ := p
      rw [hm] at h
      simp only at h
      intro v H' Φ' c
      cases hh : hand k mk τ out with
      | none => rw [hh] at h; exact h.elim
      | some τ' =>
        rw [hh] at h
        have r3 := back c hh
        refine h v H' Φ' (r3.handed (H := H) (P := fun n => if n = 0 then some a else none) r.dom (fun p hp b hb => ?_) c.hd (pr _ _ _ hm))
        -- whatever is ours behind the call was there ahead of it
        intro z
        have pm : p ∈ both σ τ' tm := hp
        unfold hand at hh
        split at hh
        · rename_i j o' rest
          cases hh
          have hi : k < τ.length := (List.getElem?_eq_some_iff.mp e).1
          rcases List.mem_append.mp pm with pm | pm
          · have hs : σ.set k (some (V.ref a)) = σ := by
              apply List.ext_getElem?
              intro j
              by_cases hj : k = j
              · subst hj
                rw [List.getElem?_set_self (by rw [r.len]; exact hi)]
                exact es.symm
              · rw [List.getElem?_set_ne hj]
            have hz : σ.zip (τ.set k (mk o')) = (σ.zip τ).set k (some (.ref a), mk o') := by
              rw [← zip_set, hs]
            rw [hz] at pm
            rcases List.mem_or_eq_of_mem_set pm with pm | pm
            · exact r.there p (List.mem_append_left _ pm) b hb z
            · rw [pm] at hb
              have hb' : b = a := by
                have := ks o'
                generalize mk o' = mo at this hb
                cases this <;> (cases hb; rfl)
              obtain ⟨u, e3, _⟩ := w.there
              rw [hb', e3] at z; cases z
          · exact r.there p (List.mem_append_right _ pm) b hb z
        · cases hh
    | exc c fs out =>
      rw [hm] at h
      simp only at h
      intro cls d H' Φ' c1 x
      cases hh : hand k mk τ out with
      | none => rw [hh] at h; exact h.elim
      | some τ' =>
        rw [hh] at h
        exact h cls d σ H' Φ' (back c1 hh) x
theorem t_callL {mf : Fn} {ms : M (List S)} {n : Nat} {Q : VK} (pr : Proper mf) (hn : ∀ (o : O) (ds : List D), mf (.lent 0 o :: ds.map S.val) ≠ .stuck → ds.length + 1 = n) (h : TEm F W (eCallL mf ms) σ H Q) : TLm F W ms σ H fun vs H1 => spM F.G n mf vs H1 Q (WE W σ) := by
  obtain ⟨Φ, τ, tm, rl, h⟩ := h
  refine tl_go rl h.bnd fun ss τ1 vs H1 Φ1 p1 l r1 => ?_
  split at p1
  · rename_i k rest
    cases vs with
    | nil => cases l
    | cons v vs =>
      have l' : vs.length = rest.length := by simpa using l
      obtain ⟨ds, τ2, e, p2⟩ := takeAll_cases (Wp.bnd p1)
      have r1' : Rl F Φ1 H1 σ τ1 ((vs.map some).zip rest ++ ((some v, .ali k) :: tm)) := r1.air (.perm (by
        show ((some v, S.ali k) :: ((vs.map some).zip rest ++ tm)).Perm _
        exact List.perm_middle.symm))
      obtain ⟨Φ2, r2, q⟩ := Rl.takenAll l' r1' e
      obtain ⟨x, s, e1, e2, e3, _⟩ := r2.hd
      cases e1
      have st : ∀ o mk, Wp F W tm (lendTo mf k o mk ds τ2) (fun s τ' => ∀ v H' Φ', Rl F Φ' H' σ τ' ((some v, s) :: tm) → Q v H') → ds.length + 1 = n := fun o mk z => by
        refine hn o ds fun y => ?_
        unfold lendTo at z
        rw [y] at z
        exact z
      obtain ⟨y, e4, em, o1⟩ := r2.at e3
      rw [e2] at e4
      cases e4
      cases s with
      | own o =>
        simp only [e3] at p2
        obtain ⟨a, e5, _⟩ := o1
        cases e5
        exact lend_ok pr (st _ _ p2) r2.tl q e3 e2 (fun o' => .own o o') p2
      | lent j o =>
        simp only [e3] at p2
        obtain ⟨a, e5, _⟩ := o1
        cases e5
        exact lend_ok pr (st _ _ p2) r2.tl q e3 e2 (fun o' => .lent j o o') p2
      | raw => simp only [e3] at p2; exact p2.elim
      | non => simp only [e3] at p2; exact p2.elim
      | val d => simp only [e3] at p2; exact p2.elim
      | ali i => simp only [e3] at p2; exact p2.elim
  · exact p1.elim
end
section
variable {X : Cx} {F : Fm} {W : WX} {k : Nat} {f : Addr} {fd : FuncData} {ps : List Str} {mf : Fn} {ms : M (List S)} {x : Str} {p pos : Pos} {a : Expr} {es : List Expr}
/-- what a rule for calls asks of a def -/
structure DefOk (P : Program) (w : World) (K : PySem.W.Frag) (mg : Str → Option Value) (base : Heap) (G : Gx) (k : Nat) (x : Str) (n : Nat) (mf : Fn) : Prop where
  ex : ∃ f fd ps, FnOk P w K mg base (L2.CX P w) k f fd ps (spM G n mf) ∧ mg x = some (.ref f) ∧ PySem.W.keepIn K (.ref f) = true ∧ Binds K fd ps []
  pr : Proper mf
  ar : ∀ ss, mf ss ≠ .stuck → ss.length = n
theorem em_callV {n : Nat} (ft : Fits X F W) (hr : Room k X.A) (df : DefOk X.prog X.w X.K X.mg X.base F.G k x n mf) (ha : LM X F W (a :: es) ms) (hg : Gl X x := by rfl) (hdb : (x == ("__debug__" : Str)) = false := by decide) (he : starEach (a :: es) X.env = (false, eval a X.env) :: starEach es X.env := by rfl) (hpl : (backTo pos (starEach es X.env)).any (·.1) = false := by rfl) :
    EM X F W (.Call (.Name x p) (a :: es) [] pos) (eCallV mf ms) := by
  obtain ⟨f, fd, ps, G, gm, kp, b⟩ := df.ex
  exact PE.imp (pe_callS (E := WE W) G hr hg gm kp b (fun σ => passAt ft.tk σ) ha hdb he hpl) fun σ H Q h => t_callV df.pr (fun ds z => by simpa using df.ar _ z) h
theorem em_callL {n : Nat} (ft : Fits X F W) (hr : Room k X.A) (df : DefOk X.prog X.w X.K X.mg X.base F.G k x n mf) (ha : LM X F W (a :: es) ms) (hg : Gl X x := by rfl) (hdb : (x == ("__debug__" : Str)) = false := by decide) (he : starEach (a :: es) X.env = (false, eval a X.env) :: starEach es X.env := by rfl) (hpl : (backTo pos (starEach es X.env)).any (·.1) = false := by rfl) :
    EM X F W (.Call (.Name x p) (a :: es) [] pos) (eCallL mf ms) := by
  obtain ⟨f, fd, ps, G, gm, kp, b⟩ := df.ex
  exact PE.imp (pe_callS (E := WE W) G hr hg gm kp b (fun σ => passAt ft.tk σ) ha hdb he hpl) fun σ H Q h => t_callL df.pr (fun o ds z => by simpa using df.ar _ z) h
end
end Mi

/-! ### M8: loops -/
namespace Mi
open PySem PySem.Spec PyProof.Rows L2

/-- while these items are walked, this must stay of the slots -/
abbrev Pin := List S → Prop
/-- what an iterator yields, seen by plain data; base: what is in the air for it -/
def Yields (F : Fm) (J : It) (its : List D) (base : Env1) (pin : Pin) : Prop := ∀ {i : Nat} {Φ H : Hp} {σ : L2.St} {τ : List S} {tm : Env1}, Rl F Φ H σ τ (base ++ tm) → pin τ →
  (∀ d, its[i]? = some d → J.go i H ∧ ∀ x H2, J.yld i H x H2 → ∃ Φ2, Rl F Φ2 H2 σ τ ((some x, .val d) :: (base ++ tm))) ∧ (its.length ≤ i → J.stop i H)
def TIm (F : Fm) (W : WX) (mi : M (List D × Pin)) : TI := fun σ H Rr => ∃ Φ τ tm, Rl F Φ H σ τ tm ∧ Wp F W tm (mi τ) fun p τ' => ∀ J H' Φ' base, Quiet base → Rl F Φ' H' σ τ' (base ++ tm) → p.2 τ' → Yields F J p.1 base p.2 → Rr J H'
abbrev IM (X : Cx) (F : Fm) (W : WX) (tg e : Expr) (mi : M (List D × Pin)) : Prop := PI X tg e (TIm F W mi)
theorem PI.imp {X : Cx} {tg e : Expr} {t t' : TI} (h : PI X tg e t) (i : ∀ σ H Q, t' σ H Q → t σ H Q) : PI X tg e t' := ⟨fun pins s σ H Q I q => h.run pins s σ H Q I (i _ _ _ q)⟩
open Classical in
noncomputable def chk (p : Pin) : M Unit := fun τ => if p τ then .ok ((), τ) else .stuck
theorem Wp.chk {F : Fm} {W : WX} {p : Pin} {τ : List S} {K : Unit → List S → Prop} (h : Wp F W tm (chk p τ) K) : p τ ∧ K () τ := by
  unfold Mi.chk at h
  split at h
  · exact ⟨by assumption, h⟩
  · exact h.elim
/-- the turns of a for -/
noncomputable def loopM (pin : Pin) (g : MG) (body : M Fl) : List D → M Fl
  | [] => M.ret .nx
  | d :: ds => M.bnd (g (.val d)) fun _ => M.bnd body fun f => match f with
    | .nx => M.bnd (chk pin) fun _ => loopM pin g body ds
    | .ct => M.bnd (chk pin) fun _ => loopM pin g body ds
    | .bk => M.ret .nx
    | .rt s => M.ret (.rt s)
noncomputable def sFor (mi : M (List D × Pin)) (g : MG) (body : M Fl) : M Fl := M.bnd mi fun p => loopM p.2 g body p.1
section
variable {X : Cx} {F : Fm} {W : WX} {Φ Φ' H H' : Hp} {σ : L2.St} {τ τ' : List S} {tm : Env1} {tg iter : Expr} {mi : M (List D × Pin)} {g : MG} {body : M Fl} {pos : Pos}
theorem quiet_app {a b : Env1} (h : Quiet a) (k : Quiet b) : Quiet (a ++ b) := fun p hp => (List.mem_append.mp hp).elim (h p) (k p)
/-- the air of the iterator goes -/
theorem Rl.unbase {base : Env1} (r : Rl F Φ H σ τ (base ++ tm)) : Rl F Φ H σ τ tm := r.air (.of (List.sublist_append_right _ _))
theorem sm_for {b : List Stmt} {is : List Nat} (ft : Fits X F W) (hi : IM X F W tg iter mi) (hg : GM X F W tg is g) (hb : BlM X F W b body) (hs : ∀ x, foldedSetIterable iter X.env x = pure x := by intro _; rfl) : SM X F W (.For tg iter b [] pos) (sFor mi g body) := by
  refine PS.imp (ps_for ft.own ft.calm hi hg hb hs) fun D σ H ⟨Φ, τ, tm, qt, r, h⟩ => ?_
  refine ⟨Φ, τ, tm, r, (Wp.bnd h).mono fun p τ1 h1 J H1 Φ1 base qb r1 pn ys => ?_⟩
  obtain ⟨its, pin⟩ := p
  simp only at h1 pn ys
  refine ⟨fun i m σ H => ∃ Φ τ, Rl F Φ H σ τ (base ++ tm) ∧ pin τ ∧ m = its.length - i ∧ Wp F W tm (loopM pin g body (its.drop i) τ) (FlK F D tm), ⟨its.length, Φ1, τ1, r1, pn, by simp, by rw [List.drop_zero]; exact h1⟩, ?_⟩
  rintro i m σ2 H2 ⟨Φ2, τ2, r2, pn2, rfl, h2⟩
  obtain ⟨y1, y2⟩ := ys (i := i) r2 pn2
  by_cases hlt : i < its.length
  · obtain ⟨d, hd⟩ : ∃ d, its[i]? = some d := ⟨its[i], List.getElem?_eq_getElem hlt⟩
    obtain ⟨go, yl⟩ := y1 d hd
    rw [List.drop_eq_getElem_cons hlt] at h2
    have ed : its[i] = d := by rw [List.getElem?_eq_getElem hlt] at hd; exact Option.some.inj hd
    rw [ed] at h2
    refine .inr ⟨go, fun σ' H' => ∃ Φ τ, Rl F Φ H' σ' τ (base ++ tm) ∧ pin τ ∧ Wp F W tm (loopM pin g body (its.drop (i + 1)) τ) (FlK F D tm), fun σ' H' ⟨Φ3, τ3, r3, pn3, h3⟩ => ⟨its.length - (i + 1), by omega, Φ3, τ3, r3, pn3, rfl, h3⟩, fun x H3 hy => ?_⟩
    obtain ⟨Φ3, r3⟩ := yl x H3 hy
    have hh := Wp.bnd (show Wp F W tm (M.bnd (g (.val d)) (fun _ => M.bnd body fun f => match f with
      | .nx => M.bnd (chk pin) fun _ => loopM pin g body (its.drop (i + 1))
      | .ct => M.bnd (chk pin) fun _ => loopM pin g body (its.drop (i + 1))
      | .bk => M.ret .nx
      | .rt s => M.ret (.rt s)) τ2) _ from h2)
    refine ⟨Φ3, τ2, base ++ tm, .val d, trivial, quiet_app qb qt, r3, (hh.air (Subp.app' (Subp.of (List.Sublist.refl _)))).mono fun _ τ4 h4 σ4 H4 Φ4 r4 _ => ?_⟩
    refine ts_go (quiet_app qb qt) r4 (Wp.bnd h4) (fun τ5 σ5 H5 Φ5 p5 r5 => ?_) (fun τ5 σ5 H5 Φ5 p5 r5 => p5 σ5 H5 Φ5 r5.unbase) (fun τ5 σ5 H5 Φ5 p5 r5 => ?_) fun s τ5 v σ5 H5 Φ5 p5 r5 => p5 v σ5 H5 Φ5 ?_
    · obtain ⟨q, k⟩ := Wp.chk (Wp.bnd p5)
      exact ⟨Φ5, τ5, r5, q, k⟩
    · obtain ⟨q, k⟩ := Wp.chk (Wp.bnd p5)
      exact ⟨Φ5, τ5, r5, q, k⟩
    · exact r5.air (.of (List.Sublist.cons_cons _ (List.sublist_append_right _ _)))
  · have hle : its.length ≤ i := by omega
    rw [List.drop_eq_nil_of_le hle] at h2
    exact .inl ⟨y2 hle, h2 σ2 H2 Φ2 r2.unbase⟩

/-! #### what is walked -/
def noPin : Pin := fun _ => True
/-- a list, a tuple: what is ours is ours no more; what was lent must stay as it is -/
def items : D → Option (List D)
  | .lst xs => some xs
  | .tup xs => some xs
  | .scr xs => some xs
  | _ => none
def iSeq (ma : M S) : M (List D × Pin) := M.bnd ma fun s => fun τ => match s with
  | .ali k => (match τ[k]? with
    | some (.lent j (.lst xs)) => .ok ((xs, fun τ => τ[k]? = some (.lent j (.lst xs))), τ)
    | _ => M.bnd (take (.ali k)) (fun d => M.bnd (M.of (items d)) fun xs => M.ret (xs, noPin)) τ)
  | s => M.bnd (take s) (fun d => M.bnd (M.of (items d)) fun xs => M.ret (xs, noPin)) τ
theorem FzL.at {G : Gx} {vs : List V} {ds : List D} {i : Nat} {d : D} (q : FzL G Φ vs ds) (h : ds[i]? = some d) : ∃ v, vs[i]? = some v ∧ Fz G Φ v d := FzL.get q h
theorem yields_lst (hK : X.K = F.G.K) {a : Addr} {xs : List D} : Yields F (Itl X.K a) xs [(some (.ref a), .val (.lst xs))] noPin := by
  intro i Φ H σ τ tm r _
  obtain ⟨x, e, q⟩ := r.one (some (.ref a), .val (.lst xs)) (List.mem_append_right _ List.mem_cons_self)
  cases e
  cases q with
  | lst h t =>
    have hs := r.le _ _ h
    refine ⟨fun d hd => ?_, fun hl => ⟨_, .inl (.inl hs), by rw [t.length]; exact hl⟩⟩
    obtain ⟨v, hv, fv⟩ := FzL.at t hd
    refine ⟨⟨_, v, .inl (.inl hs), hv⟩, fun x H2 ⟨e, y⟩ => ?_⟩
    subst e
    have := y _ (.inl (.inl hs))
    rw [hv] at this
    cases this
    exact ⟨Φ, r.val fv⟩
theorem yields_scr (hK : X.K = F.G.K) {a : Addr} {xs : List D} : Yields F (Itl X.K a) xs [(some (.ref a), .val (.scr xs))] noPin := by
  intro i Φ H σ τ tm r _
  obtain ⟨x, e, q⟩ := r.one (some (.ref a), .val (.scr xs)) (List.mem_append_right _ List.mem_cons_self)
  cases e
  cases q with
  | scr h t =>
    have hs := SqL.le h r.le
    rw [← hK] at hs
    refine ⟨fun d hd => ?_, fun hl => ⟨_, hs, by rw [t.length]; exact hl⟩⟩
    obtain ⟨v, hv, fv⟩ := FzL.at t hd
    refine ⟨⟨_, v, hs, hv⟩, fun x H2 ⟨e, y⟩ => ?_⟩
    subst e
    have := y _ hs
    rw [hv] at this
    cases this
    exact ⟨Φ, r.val fv⟩
theorem yields_tup (hK : X.K = F.G.K) {a : Addr} {xs : List D} : Yields F (Itt X.K a) xs [(some (.ref a), .val (.tup xs))] noPin := by
  intro i Φ H σ τ tm r _
  obtain ⟨x, e, q⟩ := r.one (some (.ref a), .val (.tup xs)) (List.mem_append_right _ List.mem_cons_self)
  cases e
  cases q with
  | tup h t =>
    have hs := SqT.le h r.le
    rw [← hK] at hs
    refine ⟨fun d hd => ?_, fun hl => ⟨_, hs, by rw [t.length]; exact hl⟩⟩
    obtain ⟨v, hv, fv⟩ := FzL.at t hd
    refine ⟨⟨_, v, hs, hv⟩, fun x H2 ⟨e, y⟩ => ?_⟩
    subst e
    have := y _ hs
    rw [hv] at this
    cases this
    exact ⟨Φ, r.val fv⟩
theorem yields_lent (hK : X.K = F.G.K) {a : Addr} {xs : List D} {k j : Nat} (pj : F.P j = some a) : Yields F (Itl X.K a) xs [] (fun τ => τ[k]? = some (.lent j (.lst xs))) := by
  intro i Φ H σ τ tm r pn
  obtain ⟨v, e1, em, b, e2, ⟨vs, hs, t⟩, _, pb⟩ := r.at pn
  rw [pj] at pb
  cases pb
  refine ⟨fun d hd => ?_, fun hl => ⟨_, .inl (.inl hs), by rw [t.length]; exact hl⟩⟩
  obtain ⟨v, hv, fv⟩ := FzL.at t hd
  refine ⟨⟨_, v, .inl (.inl hs), hv⟩, fun x H2 ⟨e, y⟩ => ?_⟩
  subst e
  have := y _ (.inl (.inl hs))
  rw [hv] at this
  cases this
  exact ⟨Φ, r.val fv⟩
theorem quiet_one {v : Option V} {d : D} : Quiet [(v, .val d)] := fun p hp => by
  cases hp with
  | head => trivial
  | tail _ h => cases h
theorem quiet_nil : Quiet [] := fun _ h => nomatch h
theorem im_seq {ma : M S} (ft : Fits X F W) (ha : EM X F W iter ma) : IM X F W tg iter (iSeq ma) := by
  have two : PI X tg iter (fun σ H R => TEm F W ma σ H fun x H1 => ∃ a, x = .ref a ∧ (((∃ xs, SqL X.K H1 a xs) ∧ R (Itl X.K a) H1) ∨ ((∃ xs, SqT X.K H1 a xs) ∧ R (Itt X.K a) H1))) := by
    refine ⟨fun pins s σ H R I h => ?_⟩
    refine thn (ha.run pins s σ H _ I h) fun v s1 ⟨x, H1, I1, r1, q1⟩ => ?_
    obtain ⟨a, e, q1 | q1⟩ := q1
    · have pin : PE (X) iter (fun σ2 H2 Q => TEm F W ma σ2 H2 Q) := ha
      obtain ⟨⟨xs, hq⟩, q⟩ := q1
      subst e
      cases r1
      obtain ⟨its, rv, p, hz⟩ := I1.list hq
      refine wpAny_pyIter_list p.isList ?_
      refine ⟨s1.heap.objs.size, [s1.heap.objs.size], _, _, H1, rfl, I1.kept (t' := s1.toks) fun b o e => Heap.get?_push_of_some _ e, turn_list a _, ⟨_, Heap.get?_push_size _ rfl, rfl, rfl⟩, fun b hb => ?_, q⟩
      have e : b = s1.heap.objs.size := by simpa using hb
      subst e
      exact I1.fpOk (Nat.le_refl _) (I1.hok.fresh (Nat.le_refl _))
    · obtain ⟨⟨xs, hq⟩, q⟩ := q1
      subst e
      cases r1
      obtain ⟨its, rv, p, hz⟩ := I1.tuple hq
      refine wpAny_pyIter_tuple (show s1.heap.IsTuple a its.toArray from p) ?_
      refine ⟨s1.heap.objs.size, [s1.heap.objs.size], _, _, H1, rfl, I1.kept (t' := s1.toks) fun b o e => Heap.get?_push_of_some _ e, turn_tuple a _, ⟨_, Heap.get?_push_size _ rfl, rfl, rfl⟩, fun b hb => ?_, q⟩
      have e : b = s1.heap.objs.size := by simpa using hb
      subst e
      exact I1.fpOk (Nat.le_refl _) (I1.hok.fresh (Nat.le_refl _))
  refine PI.imp two fun σ H Rr ⟨Φ, τ, tm, r, h⟩ => ?_
  refine te_go r (Wp.bnd h) fun s τ1 v H1 Φ1 p1 r1 => ?_
  have gen : Wp F W tm (M.bnd (take s) (fun d => M.bnd (M.of (items d)) fun xs => M.ret (xs, noPin)) τ1) (fun p τ' => ∀ J H' Φ' base, Quiet base → Rl F Φ' H' σ τ' (base ++ tm) → p.2 τ' → Yields F J p.1 base p.2 → Rr J H') →
      ∃ a, v = .ref a ∧ (((∃ xs, SqL X.K H1 a xs) ∧ Rr (Itl X.K a) H1) ∨ ((∃ xs, SqT X.K H1 a xs) ∧ Rr (Itt X.K a) H1)) := fun h => by
    obtain ⟨d, τ2, e, p2⟩ := take_cases (Wp.bnd h)
    obtain ⟨Φ2, r2⟩ := Rl.taken r1 e
    obtain ⟨xs, e2, k⟩ := Wp.of (Wp.bnd p2)
    obtain ⟨x, e3, q⟩ := r2.hd
    cases e3
    cases d with
    | lst ys =>
      cases e2
      cases q with
      | lst hh t => exact ⟨_, rfl, .inl ⟨⟨_, .inl (.inl (r2.le _ _ hh))⟩, k _ H1 Φ2 _ quiet_one r2 trivial (yields_lst ft.K)⟩⟩
    | scr ys =>
      cases e2
      cases q with
      | scr hh t => exact ⟨_, rfl, .inl ⟨⟨_, by rw [ft.K]; exact SqL.le hh r2.le⟩, k _ H1 Φ2 _ quiet_one r2 trivial (yields_scr ft.K)⟩⟩
    | tup ys =>
      cases e2
      cases q with
      | tup hh t => exact ⟨_, rfl, .inr ⟨⟨_, by rw [ft.K]; exact SqT.le hh r2.le⟩, k _ H1 Φ2 _ quiet_one r2 trivial (yields_tup ft.K)⟩⟩
    | _ => cases e2
  cases s with
  | ali k =>
    simp only at p1
    split at p1
    · rename_i j xs e
      obtain ⟨x, s', e1, e2, e3, _⟩ := r1.hd
      cases e1
      obtain ⟨w, e4, em, a, e5, ⟨vs, hs, t⟩, _, pj⟩ := r1.at e
      rw [e2] at e4
      cases e4
      cases e5
      exact ⟨a, rfl, .inl ⟨⟨vs, .inl (.inl hs)⟩, p1 _ H1 Φ1 [] quiet_nil r1.tl e (yields_lent ft.K pj)⟩⟩
    · exact gen p1
  | raw => exact gen p1
  | non => exact gen p1
  | val d => exact gen p1
  | own o => exact gen p1
  | lent j o => exact gen p1
/-- range(n), range(a, b) -/
def inR (i : Int) : Bool := decide (-(2 ^ 62) ≤ i ∧ i < 2 ^ 62)
def rangeD (lo hi : Int) : List D := (List.range (hi - lo).toNat).map fun n => .int (lo + (n : Nat))
def ranged1 : List D → Option (List D)
  | [.int j] => if inR j = true then some (rangeD 0 j) else none
  | _ => none
def ranged2 : List D → Option (List D)
  | [.int i, .int j] => if inR i = true ∧ inR j = true then some (rangeD i j) else none
  | _ => none
def iRng (f : List D → Option (List D)) (ms : M (List S)) : M (List D × Pin) := M.bnd ms fun ss => M.bnd (peekAll ss) fun ds => M.bnd (M.of (f ds)) fun its => M.ret (its, noPin)
theorem yields_rng {lo hi : Int} {n : Nat} (hn : n = (hi - lo).toNat) : Yields F (Itr lo n) (rangeD lo hi) [] noPin := by
  intro i Φ H σ τ tm r _
  subst hn
  refine ⟨fun d hd => ?_, fun hl => ?_⟩
  · unfold rangeD at hd
    rw [List.getElem?_map] at hd
    obtain ⟨k, e1, e2⟩ := Option.map_eq_some_iff.mp hd
    obtain ⟨h1, h2⟩ := List.getElem?_eq_some_iff.mp e1
    rw [List.length_range] at h1
    rw [List.getElem_range] at h2
    subst h2
    refine ⟨h1, fun x H2 ⟨e3, e4⟩ => ?_⟩
    subst e3 e4 e2
    exact ⟨Φ, r.val (.int _)⟩
  · unfold rangeD at hl
    rw [List.length_map, List.length_range] at hl
    exact hl
theorem im_range1 {a : Expr} {ms : M (List S)} {p : Pos} (hm : X.mg "range" = none) (ha : LM X F W [a] ms) (hg : Gl X "range" := by rfl) (hs : starEach [a] X.env = [(false, eval a X.env)] := by rfl) : IM X F W tg (.Call (.Name "range" p) [a] [] pos) (iRng ranged1 ms) :=
  PI.imp (pi_range1 hg hm ha hs) fun σ H Rr ⟨Φ, τ, tm, r, h⟩ => tl_go r (Wp.bnd h) fun ss τ1 vs H1 Φ1 p1 l r1 => by
    obtain ⟨ds, q, p2⟩ := Rl.peekAll l r1 (Wp.bnd p1)
    obtain ⟨its, e, k⟩ := Wp.of (Wp.bnd p2)
    unfold ranged1 at e
    split at e
    · split at e
      · rename_i j hz
        cases e
        obtain ⟨v, rfl, hv⟩ := rd1 q
        have hz' := of_decide_eq_true hz
        exact ⟨j, by rw [hv.int], hz'.1, hz'.2, k _ H1 Φ1 [] quiet_nil r1.unbase trivial (yields_rng (by simp))⟩
      · cases e
    · cases e
theorem im_range2 {a b : Expr} {ms : M (List S)} {p : Pos} (hm : X.mg "range" = none) (ha : LM X F W [a, b] ms) (hg : Gl X "range" := by rfl) (hs : starEach [a, b] X.env = [(false, eval a X.env), (false, eval b X.env)] := by rfl) (hs2 : starEach [b] X.env = [(false, eval b X.env)] := by rfl) : IM X F W tg (.Call (.Name "range" p) [a, b] [] pos) (iRng ranged2 ms) :=
  PI.imp (pi_range2 hg hm ha hs hs2) fun σ H Rr ⟨Φ, τ, tm, r, h⟩ => tl_go r (Wp.bnd h) fun ss τ1 vs H1 Φ1 p1 l r1 => by
    obtain ⟨ds, q, p2⟩ := Rl.peekAll l r1 (Wp.bnd p1)
    obtain ⟨its, e, k⟩ := Wp.of (Wp.bnd p2)
    unfold ranged2 at e
    split at e
    · split at e
      · rename_i i j hz
        cases e
        obtain ⟨v, w, rfl, hv, hw⟩ := rd2 q
        have h1 := of_decide_eq_true hz.1
        have h2 := of_decide_eq_true hz.2
        exact ⟨i, j, by rw [hv.int, hw.int], ⟨h1.1, h1.2, h2.1, h2.2⟩, k _ H1 Φ1 [] quiet_nil r1.unbase trivial (yields_rng rfl)⟩
      · cases e
    · cases e
/-! #### while -/
/-- n turns at most -/
def whileN (c : M Bool) (body : M Fl) : Nat → M (Option Fl)
  | 0 => M.ret none
  | n + 1 => M.bnd c fun b => if b = true then M.bnd body fun f => match f with
    | .nx => whileN c body n
    | .ct => whileN c body n
    | .bk => M.ret (some .nx)
    | .rt s => M.ret (some (.rt s))
    else M.ret (some .nx)
/-- n turns, no more, are the whole of it -/
def Ends' (c : M Bool) (body : M Fl) (τ : List S) (n : Nat) : Prop := ∀ τ', whileN c body n τ ≠ .ok (none, τ')
open Classical in
noncomputable def sWhile (c : M Bool) (body : M Fl) : M Fl := fun τ => if h : ∃ n, Ends' c body τ n then (match whileN c body (choose h) τ with
  | .ok (some f, τ') => .ok (f, τ')
  | .ok (none, _) => .stuck
  | .exc c fs τ' => .exc c fs τ'
  | .stuck => .stuck) else .stuck
theorem whileN_more {c : M Bool} {body : M Fl} : ∀ {n k : Nat} {τ : List S}, Ends' c body τ n → whileN c body (n + k) τ = whileN c body n τ
  | 0, k, τ, h => absurd rfl (h τ)
  | n + 1, k, τ, h => by
    rw [Nat.add_right_comm]
    unfold whileN M.bnd
    cases e : c τ with
    | stuck => rfl
    | exc _ _ _ => rfl
    | ok p =>
      obtain ⟨b, τ1⟩ := p
      cases b with
      | false => rfl
      | true =>
        simp only [if_true]
        cases e2 : body τ1 with
        | stuck => rfl
        | exc _ _ _ => rfl
        | ok p =>
          obtain ⟨f, τ2⟩ := p
          have go : (f = .nx ∨ f = .ct) → Ends' c body τ2 n := fun hf τ' z => by
            refine h τ' ?_
            unfold whileN M.bnd
            rw [e]
            simp only [if_true]
            rw [e2]
            rcases hf with rfl | rfl <;> exact z
          cases f with
          | nx => exact whileN_more (go (.inl rfl))
          | ct => exact whileN_more (go (.inr rfl))
          | bk => rfl
          | rt s => rfl
theorem Ends'.more {c : M Bool} {body : M Fl} {n k : Nat} {τ : List S} (h : Ends' c body τ n) : Ends' c body τ (n + k) := fun τ' => by
  rw [whileN_more h]
  exact h τ'
theorem while_eq {c : M Bool} {body : M Fl} {n : Nat} {τ : List S} (h : Ends' c body τ n) : sWhile c body τ = match whileN c body n τ with
  | .ok (some f, τ') => .ok (f, τ')
  | .ok (none, _) => .stuck
  | .exc c fs τ' => .exc c fs τ'
  | .stuck => .stuck := by
  have hx : ∃ n, Ends' c body τ n := ⟨n, h⟩
  unfold sWhile
  rw [dif_pos hx]
  have e : whileN c body (Classical.choose hx) τ = whileN c body n τ := by
    have h1 := Classical.choose_spec hx
    rcases Nat.le_total (Classical.choose hx) n with q | q
    · obtain ⟨k, rfl⟩ := Nat.exists_eq_add_of_le q
      exact (whileN_more h1).symm
    · have q2 : Classical.choose hx = n + (Classical.choose hx - n) := by omega
      rw [q2]
      exact whileN_more h
  rw [e]
theorem sm_while {c : Expr} {mc : M Bool} {b : List Stmt} (ft : Fits X F W) (hc : BM X F W c mc) (hb : BlM X F W b body) : SM X F W (.While c b [] pos) (sWhile mc body) := by
  refine PS.imp (ps_while ft.own hc hb) fun D σ H ⟨Φ, τ, tm, qt, r, h⟩ => ?_
  -- the turns that are left
  by_cases hx : ∃ n, Ends' mc body τ n
  · obtain ⟨n, hn⟩ := hx
    rw [while_eq hn] at h
    have h' : Wp F W tm (whileN mc body n τ) (fun o τ' => match o with
      | some f => FlK F D tm f τ'
      | none => False) := by
      cases e : whileN mc body n τ with
      | stuck => rw [e] at h; exact h
      | exc _ _ _ => rw [e] at h; exact h
      | ok p =>
        obtain ⟨o, τ'⟩ := p
        rw [e] at h
        cases o with
        | none => exact h
        | some f => exact h
    refine ⟨fun m σ H => ∃ Φ τ, Rl F Φ H σ τ tm ∧ Wp F W tm (whileN mc body m τ) (fun o τ' => match o with
      | some f => FlK F D tm f τ'
      | none => False), ⟨n, Φ, τ, r, h'⟩, ?_⟩
    rintro m σ1 H1 ⟨Φ1, τ1, r1, h1⟩
    cases m with
    | zero => exact h1.elim
    | succ m =>
      refine tb_go r1 (Wp.bnd (show Wp F W tm (M.bnd mc (fun b => if b = true then M.bnd body fun f => match f with
        | .nx => whileN mc body m
        | .ct => whileN mc body m
        | .bk => M.ret (some .nx)
        | .rt s => M.ret (some (.rt s))
        else M.ret (some .nx)) τ1) _ from h1)) fun bb τ2 H2 Φ2 p2 r2 => ?_
      cases bb with
      | false =>
        rw [if_neg Bool.false_ne_true] at p2 ⊢
        exact p2 σ1 H2 Φ2 r2
      | true =>
        rw [if_pos rfl] at p2 ⊢
        refine ⟨fun σ' H' => ∃ Φ τ, Rl F Φ H' σ' τ tm ∧ Wp F W tm (whileN mc body m τ) (fun o τ' => match o with
          | some f => FlK F D tm f τ'
          | none => False), fun σ' H' q => ⟨m, Nat.lt_succ_self m, q⟩, ?_⟩
        exact ts_go qt r2 (Wp.bnd p2) (fun τ5 σ5 H5 Φ5 p5 r5 => ⟨Φ5, τ5, r5, p5⟩) (fun τ5 σ5 H5 Φ5 p5 r5 => p5 σ5 H5 Φ5 r5) (fun τ5 σ5 H5 Φ5 p5 r5 => ⟨Φ5, τ5, r5, p5⟩) fun s τ5 v σ5 H5 Φ5 p5 r5 => p5 v σ5 H5 Φ5 r5
  · unfold sWhile at h
    rw [dif_neg hx] at h
    exact h.elim
end
end Mi

/-! ### M9: comprehensions, stores -/
namespace Mi
open PySem PySem.Spec PyProof.Rows L2

def S.isReal : S → Bool
  | .non => false
  | .raw => false
  | .ali _ => false
  | _ => true
theorem S.real_iff {s : S} : s.isReal = true ↔ s.real := by cases s <;> simp [S.isReal, S.real]
def S.isAli : S → Bool
  | .ali _ => true
  | _ => false
def plainS : S → Bool
  | .non => true
  | .val _ => true
  | _ => false
def wipeT (own : List Nat) (τ : List S) : List S := own.foldl (fun t i => t.set i .non) τ
theorem wipeT_length : ∀ (own : List Nat) (τ : List S), (wipeT own τ).length = τ.length
  | [], _ => rfl
  | i :: own, τ => by
    show (wipeT own (τ.set i .non)).length = _
    rw [wipeT_length, List.length_set]
theorem wipeT_get : ∀ (own : List Nat) (τ : List S) (j : Nat), (wipeT own τ)[j]? = if j ∈ own then τ[j]?.map (fun _ => .non) else τ[j]?
  | [], τ, j => by simp [wipeT]
  | i :: own, τ, j => by
    show (wipeT own (τ.set i .non))[j]? = _
    rw [wipeT_get own]
    by_cases hj : i = j
    · subst hj
      by_cases hi : i < τ.length
      · rw [List.getElem?_set_self hi, if_pos List.mem_cons_self, List.getElem?_eq_getElem hi]
        split <;> rfl
      · rw [List.getElem?_eq_none (by rw [List.length_set]; omega), List.getElem?_eq_none (by omega)]
        split <;> (first | rfl | (split <;> rfl))
    · rw [List.getElem?_set_ne hj]
      by_cases hm : j ∈ own
      · rw [if_pos hm, if_pos (List.mem_cons_of_mem _ hm)]
      · rw [if_neg hm, if_neg (fun z => (List.mem_cons.mp z).elim (fun e => hj e.symm) hm)]
theorem wipe_get (σ : L2.St) : ∀ (own : List Nat) (j : Nat), (wipe σ own)[j]? = if j ∈ own then σ[j]?.map (fun _ => none) else σ[j]?
  | [], j => by simp [wipe]
  | i :: own, j => by
    show ((wipe σ own).set i none)[j]? = _
    by_cases hj : i = j
    · subst hj
      rw [if_pos List.mem_cons_self]
      by_cases hi : i < σ.length
      · rw [List.getElem?_set_self (by rw [wipe_length]; exact hi), List.getElem?_eq_getElem hi]
        rfl
      · rw [List.getElem?_eq_none (by rw [List.length_set, wipe_length]; omega), List.getElem?_eq_none (by omega)]
        rfl
    · rw [List.getElem?_set_ne hj, wipe_get σ own]
      by_cases hm : j ∈ own
      · rw [if_pos hm, if_pos (List.mem_cons_of_mem _ hm)]
      · rw [if_neg hm, if_neg (fun z => (List.mem_cons.mp z).elim (fun e => hj e.symm) hm)]
theorem wipe_but {is own : List Nat} {σ σ' : L2.St} (h : But is (wipe σ own) σ') (s : ∀ i ∈ is, i ∈ own) : wipe σ' own = wipe σ own := by
  have l : σ'.length = σ.length := by rw [h.len, wipe_length]
  apply List.ext_getElem?
  intro j
  rw [wipe_get, wipe_get]
  by_cases hm : j ∈ own
  · rw [if_pos hm, if_pos hm]
    by_cases hj : j < σ.length
    · rw [List.getElem?_eq_getElem hj, List.getElem?_eq_getElem (by omega)]; rfl
    · rw [List.getElem?_eq_none (by omega), List.getElem?_eq_none (by omega)]
  · rw [if_neg hm, if_neg hm, h.at_ j (fun z => hm (s j z)), wipe_get, if_neg hm]
/-- behind the comprehension: its own names are what they were -/
def restT (own : List Nat) (τ τ1 : List S) : List S := (List.range τ.length).map fun i => if own.contains i = true then τ.getD i .non else τ1.getD i .non
def realOk : List S → List S → Bool
  | [], [] => true
  | s :: τ, t :: τ1 => (!s.isReal || t.isReal) && realOk τ τ1
  | _, _ => false
def wip (own : List Nat) : M Unit := fun τ => .ok ((), wipeT own τ)
noncomputable def compM (own : List Nat) (pin : Pin) (g : MG) (test : M Bool) (elt : M S) : List D → List D → M (List D)
  | [], acc => M.ret acc
  | d :: ds, acc => M.bnd (g (.val d)) fun _ => M.bnd test fun b => if b = true then
      M.bnd elt fun s => M.bnd (take s) fun y => M.bnd (M.of (fitL (acc.length + 1))) fun _ => M.bnd (wip own) fun _ => M.bnd (chk pin) fun _ => compM own pin g test elt ds (acc ++ [y])
    else M.bnd (wip own) fun _ => M.bnd (chk pin) fun _ => compM own pin g test elt ds acc
noncomputable def eComp (own : List Nat) (mi : M (List D × Pin)) (g : MG) (test : M Bool) (elt : M S) : M S := M.bnd mi fun p => fun τ =>
  if own.all (fun i => plainS (τ.getD i .non)) = true then (match (M.bnd (chk p.2) fun _ => compM own p.2 g test elt p.1 []) (wipeT own τ) with
  | .ok (ds, τ1) => if realOk (wipeT own τ) τ1 = true then .ok (.own (.lst ds), restT own τ τ1) else .stuck
  | _ => .stuck) else .stuck
def bYes : M Bool := M.ret true
abbrev W0 : WX := fun _ _ _ _ => False

section
variable {X : Cx} {F : Fm} {W : WX} {Φ Φ' H H' : Hp} {σ : L2.St} {τ τ1 τ' : List S} {tm : Env1}
theorem realOk_len : ∀ {τ τ1 : List S}, realOk τ τ1 = true → τ.length = τ1.length
  | [], [], _ => rfl
  | _ :: _, _ :: _, h => by
    unfold realOk at h
    rw [Bool.and_eq_true] at h
    rw [List.length_cons, List.length_cons, realOk_len h.2]
  | [], _ :: _, h => by cases h
  | _ :: _, [], h => by cases h
theorem realOk_at : ∀ {τ τ1 : List S} {i : Nat} {s : S}, realOk τ τ1 = true → τ[i]? = some s → s.real → ∃ t, τ1[i]? = some t ∧ t.real
  | [], [], _, _, _, e, _ => by simp at e
  | s :: τ, t :: τ1, 0, s', h, e, q => by
    unfold realOk at h
    rw [Bool.and_eq_true] at h
    simp only [List.getElem?_cons_zero, Option.some.injEq] at e
    subst e
    have hs := S.real_iff.mpr q
    rw [hs] at h
    exact ⟨t, rfl, S.real_iff.mp (by simpa using h.1)⟩
  | s :: τ, t :: τ1, i + 1, s', h, e, q => by
    unfold realOk at h
    rw [Bool.and_eq_true] at h
    simp only [List.getElem?_cons_succ] at e
    obtain ⟨t', h1, h2⟩ := realOk_at h.2 e q
    exact ⟨t', by simpa using h1, h2⟩
  | [], _ :: _, _, _, h, _, _ => by cases h
  | _ :: _, [], _, _, h, _, _ => by cases h
theorem pw_filter {q : Option V × S → Bool} : ∀ {l : Env1}, (l.filter q).Pairwise Apart → (∀ p ∈ l, q p = false → holds p = none) → l.Pairwise Apart
  | [], _, _ => List.Pairwise.nil
  | p :: l, h, k => by
    have k' : ∀ x ∈ l, q x = false → holds x = none := fun x hx => k x (List.mem_cons_of_mem _ hx)
    by_cases hq : q p = true
    · rw [List.filter_cons_of_pos hq] at h
      obtain ⟨h1, h2⟩ := List.pairwise_cons.mp h
      refine List.pairwise_cons.mpr ⟨fun x hx => ?_, pw_filter h2 k'⟩
      by_cases hx' : q x = true
      · exact h1 x (List.mem_filter.mpr ⟨hx, hx'⟩)
      · exact (apart_none (k' x hx (by simpa using hx'))).symm
    · have hq' : q p = false := by simpa using hq
      rw [List.filter_cons_of_neg (by simp [hq'])] at h
      exact List.pairwise_cons.mpr ⟨fun x hx => apart_none (k p List.mem_cons_self hq'), pw_filter h k'⟩
def isQ (p : Option V × S) : Bool := !p.2.isAli
theorem isQ_quiet : Quiet (tm.filter isQ) := fun p hp => by
  have := (List.mem_filter.mp hp).2
  obtain ⟨v, s⟩ := p
  cases s <;> first | trivial | cases this
theorem holds_notQ {p : Option V × S} (h : isQ p = false) : holds p = none := by
  obtain ⟨v, s⟩ := p
  cases s <;> first | (cases h; done) | exact holds_ali
def valsOf (L : Env1) : Env1 := L.filter fun p => match p.2 with
  | .val _ => true
  | _ => false
theorem valsOf_mem {L : Env1} {v : Option V} {d : D} (h : (v, S.val d) ∈ L) : (v, S.val d) ∈ valsOf L := List.mem_filter.mpr ⟨h, rfl⟩
theorem valsOf_val {L : Env1} {p : Option V × S} (h : p ∈ valsOf L) : ∃ v d, p = (v, S.val d) ∧ p ∈ L := by
  obtain ⟨h1, h2⟩ := List.mem_filter.mp h
  obtain ⟨v, s⟩ := p
  cases s with
  | val d => exact ⟨v, d, rfl, h1⟩
  | _ => cases h2
theorem valsOf_quiet {L : Env1} : Quiet (valsOf L) := fun p hp => by
  obtain ⟨v, d, rfl, _⟩ := valsOf_val hp
  trivial
/-- plain values of the slots hang in the air too -/
theorem Rl.saved (r : Rl F Φ H σ τ tm) : Rl F Φ H σ τ (valsOf (σ.zip τ) ++ tm) := by
  have nv : ∀ p ∈ valsOf (σ.zip τ), holds p = none := fun p hp => by
    obtain ⟨v, d, rfl, _⟩ := valsOf_val hp
    exact holds_val
  refine ⟨r.len, r.fl, r.le0, r.le, r.pres, r.dom, r.new, fun p hp => ?_, ?_, r.tabs⟩
  · rcases List.mem_append.mp hp with h | h
    · exact r.one p (List.mem_append_left _ h)
    · rcases List.mem_append.mp h with h | h
      · obtain ⟨v, d, rfl, hm⟩ := valsOf_val h
        exact r.one _ (List.mem_append_left _ hm)
      · exact r.one p (List.mem_append_right _ h)
  · obtain ⟨h1, h2, h3⟩ := List.pairwise_append.mp r.nd
    refine List.pairwise_append.mpr ⟨h1, List.pairwise_append.mpr ⟨?_, h2, fun a ha b hb => apart_none (nv a ha)⟩, fun a ha b hb => ?_⟩
    · refine List.Pairwise.imp_of_mem (fun {a b} ha _ _ => apart_none (nv a ha)) (h1.sublist List.filter_sublist)
    · rcases List.mem_append.mp hb with h | h
      · exact (apart_none (nv b h)).symm
      · exact h3 a ha b h
/-- slots forgotten -/
theorem Rl.wiped (r : Rl F Φ H σ τ tm) (qt : Quiet tm) (own : List Nat) : Rl F Φ H (wipe σ own) (wipeT own τ) tm := by
  have len : (wipe σ own).length = (wipeT own τ).length := by rw [wipe_length, wipeT_length]; exact r.len
  have ent : ∀ {j : Nat} {p}, ((wipe σ own).zip (wipeT own τ))[j]? = some p → (p.2 = .non) ∨ (σ.zip τ)[j]? = some p := fun {j p} h => by
    obtain ⟨v, s⟩ := p
    rw [List.getElem?_zip_eq_some] at h
    obtain ⟨h1, h2⟩ := h
    rw [wipe_get] at h1
    rw [wipeT_get] at h2
    by_cases hm : j ∈ own
    · rw [if_pos hm] at h2
      obtain ⟨_, _, e⟩ := Option.map_eq_some_iff.mp h2
      exact .inl e.symm
    · rw [if_neg hm] at h1 h2
      exact .inr (List.getElem?_zip_eq_some.mpr ⟨h1, h2⟩)
  have lz : ((wipe σ own).zip (wipeT own τ)).length = (σ.zip τ).length := by rw [List.length_zip, List.length_zip, wipe_length, wipeT_length]
  refine ⟨len, fun s hs => ?_, r.le0, r.le, r.pres, r.dom, r.new, fun p hp => ?_, ?_, r.tabs⟩
  · obtain ⟨j, hj⟩ := List.getElem?_of_mem hs
    rw [wipeT_get] at hj
    by_cases hm : j ∈ own
    · rw [if_pos hm] at hj
      obtain ⟨_, _, e⟩ := Option.map_eq_some_iff.mp hj
      rw [← e]; trivial
    · rw [if_neg hm] at hj
      exact r.fl s (List.mem_of_getElem? hj)
  · rcases List.mem_append.mp hp with h | h
    · obtain ⟨j, hj⟩ := List.getElem?_of_mem h
      rcases ent hj with e | e
      · obtain ⟨v, s⟩ := p
        simp only at e
        subst e
        trivial
      · have hm := List.mem_of_getElem? e
        exact (r.one p (List.mem_append_left _ hm)).slots (r.fl _ (List.of_mem_zip hm).2)
    · exact (r.one p (List.mem_append_right _ h)).slots (qt p h)
  · obtain ⟨h1, h2, h3⟩ := List.pairwise_append.mp r.nd
    refine List.pairwise_append.mpr ⟨?_, h2, fun a ha b hb => ?_⟩
    · rw [List.pairwise_iff_getElem] at h1 ⊢
      intro i j hi hj lt
      rcases ent (List.getElem?_eq_getElem hi) with e | e
      · exact apart_none (holds_non' e)
      · rcases ent (List.getElem?_eq_getElem hj) with e2 | e2
        · exact (apart_none (holds_non' e2)).symm
        · obtain ⟨x1, x2⟩ := List.getElem?_eq_some_iff.mp e
          obtain ⟨y1, y2⟩ := List.getElem?_eq_some_iff.mp e2
          have := h1 i j x1 y1 lt
          rw [x2, y2] at this
          exact this
    · obtain ⟨j, hj⟩ := List.getElem?_of_mem ha
      rcases ent hj with e | e
      · exact apart_none (holds_non' e)
      · exact h3 a (List.mem_of_getElem? e) b hb
theorem restT_length (own : List Nat) (τ τ1 : List S) : (restT own τ τ1).length = τ.length := by unfold restT; simp
theorem restT_get {own : List Nat} {j : Nat} (h : j < τ.length) : (restT own τ τ1)[j]? = some (if own.contains j = true then τ.getD j .non else τ1.getD j .non) := by
  unfold restT
  rw [List.getElem?_map, List.getElem?_range h]
  rfl
/-- back in the def: the comprehension's names are what they were -/
theorem Rl.rest {own : List Nat} {Φ0 H0 : Hp} {x : Env1} (r0 : Rl F Φ0 H0 σ τ tm) (r : Rl F Φ H (wipe σ own) τ1 (x ++ (valsOf (σ.zip τ) ++ tm.filter isQ))) (qx : Quiet x) (pl : own.all (fun i => plainS (τ.getD i .non)) = true) (ok : realOk (wipeT own τ) τ1 = true) : Rl F Φ H σ (restT own τ τ1) (x ++ tm) := by
  have l1 : τ1.length = τ.length := by rw [← realOk_len ok, wipeT_length]
  have plain : ∀ i ∈ own, ∀ s, τ[i]? = some s → plainS s = true := fun i hi s e => by
    have := List.all_eq_true.mp pl i hi
    rwa [List.getD_eq_getElem?_getD, e, Option.getD_some] at this
  -- the entries
  have ent : ∀ {j : Nat} {v : Option V} {s : S}, (σ.zip (restT own τ τ1))[j]? = some (v, s) → (j ∈ own ∧ σ[j]? = some v ∧ τ[j]? = some s) ∨ (j ∉ own ∧ ((wipe σ own).zip τ1)[j]? = some (v, s)) := fun {j v s} h => by
    rw [List.getElem?_zip_eq_some] at h
    obtain ⟨h1, h2⟩ := h
    have hj : j < τ.length := by
      have := (List.getElem?_eq_some_iff.mp h2).1
      rwa [restT_length] at this
    rw [restT_get hj] at h2
    by_cases hm : j ∈ own
    · rw [if_pos (by simpa using hm)] at h2
      refine .inl ⟨hm, h1, ?_⟩
      rw [List.getD_eq_getElem?_getD, List.getElem?_eq_getElem hj, Option.getD_some] at h2
      rw [List.getElem?_eq_getElem hj]
      exact h2
    · rw [if_neg (by simpa using hm)] at h2
      refine .inr ⟨hm, List.getElem?_zip_eq_some.mpr ⟨by rw [wipe_get, if_neg hm]; exact h1, ?_⟩⟩
      rw [List.getD_eq_getElem?_getD, List.getElem?_eq_getElem (by omega), Option.getD_some] at h2
      rw [List.getElem?_eq_getElem (by omega)]
      exact h2
  have fl : Flat (restT own τ τ1) := fun s hs => by
    obtain ⟨j, hj⟩ := List.getElem?_of_mem hs
    have hl : j < σ.length := by
      have := (List.getElem?_eq_some_iff.mp hj).1
      rw [restT_length, ← r0.len] at this
      exact this
    rcases ent (List.getElem?_zip_eq_some.mpr ⟨List.getElem?_eq_getElem hl, hj⟩) with ⟨_, _, e⟩ | ⟨_, e⟩
    · exact r0.fl s (List.mem_of_getElem? e)
    · exact r.fl s (List.mem_of_getElem? (List.getElem?_zip_eq_some.mp e).2)
  have oneS : ∀ p ∈ σ.zip (restT own τ τ1), One F Φ H σ (restT own τ τ1) p ∧ (holds p = none ∨ ∃ j, ((wipe σ own).zip τ1)[j]? = some p) := fun p hp => by
    obtain ⟨j, hj⟩ := List.getElem?_of_mem hp
    obtain ⟨v, s⟩ := p
    rcases ent hj with ⟨hm, e1, e2⟩ | ⟨hm, e⟩
    · have ps := plain j hm s e2
      cases s with
      | non => exact ⟨trivial, .inl holds_non⟩
      | val d =>
        have hz : (v, S.val d) ∈ σ.zip τ := List.mem_of_getElem? (List.getElem?_zip_eq_some.mpr ⟨e1, e2⟩)
        have := r.one (v, .val d) (List.mem_append_right _ (List.mem_append_right _ (List.mem_append_left _ (valsOf_mem hz))))
        exact ⟨this, .inl holds_val⟩
      | raw => cases ps
      | own o => cases ps
      | lent j o => cases ps
      | ali i => cases ps
    · have hz := List.mem_of_getElem? e
      exact ⟨(r.one _ (List.mem_append_left _ hz)).slots (r.fl _ (List.of_mem_zip hz).2), .inr ⟨j, e⟩⟩
  -- the air
  have real : ∀ (i : Nat) (s : S), τ[i]? = some s → s.real → ∃ t : S, (restT own τ τ1)[i]? = some t ∧ t.real := fun i s e q => by
    have hi : i < τ.length := (List.getElem?_eq_some_iff.mp e).1
    rw [restT_get hi]
    by_cases hm : i ∈ own
    · rw [if_pos (by simpa using hm)]
      refine ⟨_, rfl, ?_⟩
      rw [List.getD_eq_getElem?_getD, e, Option.getD_some]
      exact q
    · rw [if_neg (by simpa using hm)]
      have ew : (wipeT own τ)[i]? = some s := by rw [wipeT_get, if_neg hm]; exact e
      obtain ⟨t, h1, h2⟩ := realOk_at ok ew q
      refine ⟨_, rfl, ?_⟩
      rw [List.getD_eq_getElem?_getD, h1, Option.getD_some]
      exact h2
  have quiet : Quiet (x ++ (valsOf (σ.zip τ) ++ tm.filter isQ)) := quiet_app qx (quiet_app valsOf_quiet isQ_quiet)
  have oneT : ∀ p ∈ x ++ tm, One F Φ H σ (restT own τ τ1) p := fun p hp => by
    rcases List.mem_append.mp hp with h | h
    · exact (r.one p (List.mem_append_right _ (List.mem_append_left _ h))).slots (qx p h)
    · by_cases hq : isQ p = true
      · have hf := List.mem_filter.mpr ⟨h, hq⟩
        exact (r.one p (List.mem_append_right _ (List.mem_append_right _ (List.mem_append_right _ hf)))).slots (isQ_quiet p hf)
      · obtain ⟨v, s⟩ := p
        cases s with
        | ali i =>
          obtain ⟨y, s, e1, e2, e3, e4⟩ := r0.one (v, .ali i) (List.mem_append_right _ h)
          obtain ⟨t, f1, f2⟩ := real i s e3 e4
          exact ⟨y, t, e1, e2, f1, f2⟩
        | _ => exact absurd rfl hq
  obtain ⟨n1, n2, n3⟩ := List.pairwise_append.mp r.nd
  have airPw : (x ++ tm).Pairwise Apart := by
    refine pw_filter (q := isQ) ?_ fun p _ h => holds_notQ h
    rw [List.filter_append]
    have ex : x.filter isQ = x := List.filter_eq_self.mpr fun p hp => by
      have := qx p hp
      obtain ⟨v, s⟩ := p
      cases s <;> first | rfl | exact this.elim
    rw [ex]
    exact n2.sublist (List.Sublist.append_left (List.sublist_append_right _ _) _)
  refine ⟨by rw [restT_length]; exact r0.len, fl, r.le0, r.le, r.pres, r.dom, r.new, fun p hp => (List.mem_append.mp hp).elim (fun h => (oneS p h).1) (oneT p), ?_, r.tabs⟩
  refine List.pairwise_append.mpr ⟨?_, airPw, fun a ha b hb => ?_⟩
  · rw [List.pairwise_iff_getElem] at n1 ⊢
    intro i j hi hj lt
    have gi := List.getElem?_eq_getElem hi
    have gj := List.getElem?_eq_getElem hj
    generalize (σ.zip (restT own τ τ1))[i] = p at gi ⊢
    generalize (σ.zip (restT own τ τ1))[j] = q at gj ⊢
    obtain ⟨pv, ps⟩ := p
    obtain ⟨qv, qs⟩ := q
    rcases ent gi with ⟨hm, e1, e2⟩ | ⟨hm, e⟩
    · have := plain i hm ps e2
      cases ps <;> first | exact apart_none holds_val | exact apart_none holds_non | cases this
    · rcases ent gj with ⟨hm2, e1, e2⟩ | ⟨hm2, e2⟩
      · have := plain j hm2 qs e2
        cases qs <;> first | exact (apart_none holds_val).symm | exact (apart_none holds_non).symm | cases this
      · obtain ⟨x1, x2⟩ := List.getElem?_eq_some_iff.mp e
        obtain ⟨y1, y2⟩ := List.getElem?_eq_some_iff.mp e2
        have := n1 i j x1 y1 lt
        rw [x2, y2] at this
        exact this
  · rcases (oneS a ha).2 with h | ⟨j, h⟩
    · exact apart_none h
    · by_cases hq : isQ b = true
      · have hb' : b ∈ x ++ (valsOf (σ.zip τ) ++ tm.filter isQ) := by
          rcases List.mem_append.mp hb with z | z
          · exact List.mem_append_left _ z
          · exact List.mem_append_right _ (List.mem_append_right _ (List.mem_filter.mpr ⟨z, hq⟩))
        exact n3 a (List.mem_of_getElem? h) b hb'
      · exact (apart_none (holds_notQ (by simpa using hq))).symm
/-- a list of ours that hangs in the air is written -/
theorem Rl.wroteAir {a : Addr} {o o' : O} {u u' : HO} (r : Rl F Φ H σ τ ((some (.ref a), .own o) :: tm)) (h : H a = some u) (h1 : ∀ ps, u ≠ .tbl ps) (h2 : ∀ φ, u ≠ .ext φ) (w : Ow F.G Φ (upd H a u') a o') : Rl F Φ (upd H a u') σ τ ((some (.ref a), .own o') :: tm) := by
  obtain ⟨b, e1, q1, q2, q3⟩ := r.hd
  cases e1
  have pm : ∀ {y : S}, (both σ τ ((some (.ref a), y) :: tm)).Perm ((some (.ref a), y) :: both σ τ tm) := fun {y} => List.perm_middle
  obtain ⟨n1, n2⟩ := List.pairwise_cons.mp ((pm.pairwise_iff fun h => Apart.symm h).mp r.nd)
  refine ⟨r.len, r.fl, r.le0, fun b z q => ?_, fun b z e n t => ?_, fun b q => ?_, r.new, fun p hp => ?_, (pm.pairwise_iff fun h => Apart.symm h).mpr (List.pairwise_cons.mpr ⟨fun p hp b hb hq => ?_, n2⟩), ⟨tabs_write r.tabs.1 h h1 h2, r.tabs.2⟩⟩
  · rw [upd_ne (fun x => by rw [x, q2] at q; cases q)]
    exact r.le _ _ q
  · rw [upd_ne (fun x => by rw [x, q3] at e; cases e)]
    exact r.pres b z e n t
  · by_cases x : b = a
    · subst x; rw [upd_same] at q; cases q
    · rw [upd_ne x] at q; exact r.dom b q
  · rcases List.mem_cons.mp (pm.mem_iff.mp hp) with e | hp
    · rw [e]
      exact ⟨a, rfl, w, q2, q3⟩
    · have op := r.one p (pm.mem_iff.mpr (List.mem_cons_of_mem _ hp))
      refine op.step (Le.refl _) fun b hb => ⟨fun z e _ => ?_, (op.own hb).1⟩
      rw [upd_ne (fun x => n1 p hp a rfl (by rw [← x]; exact hb))]
      exact e
  · cases hb
    exact n1 p hp a rfl hq
theorem Fits.blk (ft : Fits X F W) (s : Shared) (H : Hp) (scope : Scope) (cenv : Env) (fp : List Addr) : Fits (X.blk s H scope cenv fp) F W0 := ⟨ft.calm, ft.nd, ft.K, takes0, PassesOwn.never⟩
end
section
variable {X : Cx} {F : Fm} {W : WX} {Φ Φ' H H' : Hp} {σ : L2.St} {τ τ1 τ' : List S} {tm : Env1} {elt tg iter : Expr} {ifs : List Expr} {scope : Scope} {pos : Pos} {own : List (Str × Nat)} {is : List Nat} {mi : M (List D × Pin)} {g : MG} {test : M Bool} {me : M S}
theorem Wp.exc {α : Type} {c : Str} {fs : List (Str × D)} {K : α → List S → Prop} (h : Wp F W tm (.exc c fs τ) K) : ∀ cls d σ H Φ, Rl F Φ H σ τ tm → ExR F Φ H cls d c fs → W cls d σ H := h
/-- nothing raises in a run that ends well -/
theorem quietRun {α β : Type} {m : M α} {f : α → M β} {τ : List S} {r : β × List S} (h : M.bnd m f τ = .ok r) {K : α → List S → Prop} (k : ∀ a τ', m τ = .ok (a, τ') → f a τ' = .ok r → K a τ') : Wp F W0 tm (m τ) K := by
  obtain ⟨a, τ1, e1, e2⟩ := bnd_ok h
  rw [e1]
  exact k a τ1 e1 e2
theorem pts_m (h : BM X F W elt test) : PTs X [elt] (TBm F W test) := pts_one h
theorem pts_yes : PTs X [] (TBm F W bYes) := ⟨fun pins s σ H Q I ⟨Φ, τ, tm, r, h⟩ => pts_nil.run pins s σ H Q I (h H Φ r)⟩
/-- the reading of a comprehension -/
theorem t_comp {Q : VK} (sub : ∀ i ∈ is, i ∈ own.map (·.2)) (h : TEm F W (eComp (own.map (·.2)) mi g test me) σ H Q) : tLc (TIm F W mi) (TGm F W0 is g) (TBm F W0 test) (TEm F W0 me) (own.map (·.2)) σ H Q := by
  generalize hw : own.map (·.2) = ow at h sub ⊢
  obtain ⟨Φ, τ, tm, r, h⟩ := h
  refine ⟨Φ, τ, tm, r, (Wp.bnd h).mono fun p τ1 h1 J H1 Φ1 base qb r1 pn ys D hD => ?_⟩
  obtain ⟨its, pin⟩ := p
  simp only at h1 pn ys
  split at h1
  · rename_i pl
    cases hc : (M.bnd (chk pin) fun _ => compM ow pin g test me its []) (wipeT ow τ1) with
    | stuck => rw [hc] at h1; exact h1.elim
    | exc _ _ _ => rw [hc] at h1; exact h1.elim
    | ok p =>
      obtain ⟨ds, τ2⟩ := p
      rw [hc] at h1
      simp only at h1
      split at h1
      · rename_i ok
        obtain ⟨_, τc, ec, hcm⟩ := bnd_ok hc
        have pnw : pin (wipeT ow τ1) ∧ τc = wipeT ow τ1 := by
          unfold chk at ec
          split at ec
          · cases ec; exact ⟨by assumption, rfl⟩
          · cases ec
        obtain ⟨pnw, rfl⟩ := pnw
        -- what hangs in the air within
        have qs : Quiet (valsOf (σ.zip τ1) ++ tm.filter isQ) := quiet_app valsOf_quiet isQ_quiet
        have fr : Fz F.G Φ1 .non .non := .non
        -- at the start
        have r2 : Rl F Φ1 H1 σ τ1 (base ++ (valsOf (σ.zip τ1) ++ tm.filter isQ)) := by
          have rb := (r1.saved).air (tm' := base ++ (valsOf (σ.zip τ1) ++ tm.filter isQ)) (by
            refine ⟨valsOf (σ.zip τ1) ++ (base ++ tm.filter isQ), ?_, List.Sublist.append_left (List.Sublist.append_left List.filter_sublist _) _⟩
            rw [← List.append_assoc, ← List.append_assoc]
            exact List.Perm.append_right _ List.perm_append_comm)
          exact rb
        have r3 : Rl F Φ1 (upd H1 D (.lst [])) (wipe σ ow) (wipeT ow τ1) ((some (.ref D), .own (.lst [])) :: (base ++ (valsOf (σ.zip τ1) ++ tm.filter isQ))) := (r2.wiped (quiet_app qb qs) ow).mine hD .nil
        refine ⟨fun i m H => ∃ Φ τ acc, Rl F Φ H (wipe σ ow) τ ((some (.ref D), .own (.lst acc)) :: (base ++ (valsOf (σ.zip τ1) ++ tm.filter isQ))) ∧ pin τ ∧ m = its.length - i ∧ compM ow pin g test me (its.drop i) acc τ = .ok (ds, τ2), ⟨its.length, Φ1, wipeT ow τ1, [], r3, pnw, by simp, by rw [List.drop_zero]; exact hcm⟩, ?_⟩
        rintro i m H3 ⟨Φ3, τ3, acc, r4, pn3, rfl, h3⟩
        have r4' : Rl F Φ3 H3 (wipe σ ow) τ3 (base ++ ((some (.ref D), .own (.lst acc)) :: (valsOf (σ.zip τ1) ++ tm.filter isQ))) := r4.air (.perm List.perm_middle.symm)
        obtain ⟨y1, y2⟩ := ys (i := i) r4' pn3
        by_cases hlt : i < its.length
        · obtain ⟨d, hd⟩ : ∃ d, its[i]? = some d := ⟨its[i], List.getElem?_eq_getElem hlt⟩
          obtain ⟨go, yl⟩ := y1 d hd
          rw [List.drop_eq_getElem_cons hlt] at h3
          have ed : its[i] = d := by rw [List.getElem?_eq_getElem hlt] at hd; exact Option.some.inj hd
          rw [ed] at h3
          refine .inr ⟨go, fun H' => ∃ Φ τ acc, Rl F Φ H' (wipe σ ow) τ ((some (.ref D), .own (.lst acc)) :: (base ++ (valsOf (σ.zip τ1) ++ tm.filter isQ))) ∧ pin τ ∧ compM ow pin g test me (its.drop (i + 1)) acc τ = .ok (ds, τ2), fun H' ⟨Φ5, τ5, acc5, r5, pn5, h5⟩ => ⟨its.length - (i + 1), by omega, Φ5, τ5, acc5, r5, pn5, rfl, h5⟩, fun x H4 hy => ?_⟩
          obtain ⟨Φ4, r5⟩ := yl x H4 hy
          have qD : Quiet (base ++ ((some (V.ref D), S.own (.lst acc)) :: (valsOf (σ.zip τ1) ++ tm.filter isQ))) := quiet_app qb fun p hp => by
            rcases List.mem_cons.mp hp with e | hp
            · rw [e]; trivial
            · exact qs p hp
          refine ⟨Φ4, τ3, base ++ ((some (.ref D), .own (.lst acc)) :: (valsOf (σ.zip τ1) ++ tm.filter isQ)), .val d, trivial, qD, r5, ?_⟩
          unfold compM at h3
          refine quietRun h3 fun _ τ4 e4 h4 σ6 H6 Φ6 r6 b6 => ⟨wipe_but b6 sub, ?_⟩
          have wb : wipe σ6 ow = wipe σ ow := wipe_but b6 sub
          -- the turn's end
          have fin : ∀ {H' Φ' τ' acc'}, Rl F Φ' H' σ6 τ' (base ++ ((some (V.ref D), S.own (.lst acc')) :: (valsOf (σ.zip τ1) ++ tm.filter isQ))) → Quiet (base ++ ((some (V.ref D), S.own (.lst acc')) :: (valsOf (σ.zip τ1) ++ tm.filter isQ))) → (M.bnd (wip ow) fun _ => M.bnd (chk pin) fun _ => compM ow pin g test me (its.drop (i + 1)) acc') τ' = .ok (ds, τ2) →
              ∃ Φ τ acc, Rl F Φ H' (wipe σ ow) τ ((some (.ref D), .own (.lst acc)) :: (base ++ (valsOf (σ.zip τ1) ++ tm.filter isQ))) ∧ pin τ ∧ compM ow pin g test me (its.drop (i + 1)) acc τ = .ok (ds, τ2) := fun {H' Φ' τ' acc'} r' q' h' => by
            obtain ⟨_, τ7, e7, h7⟩ := bnd_ok h'
            cases e7
            obtain ⟨_, τ8, e8, h8⟩ := bnd_ok h7
            unfold chk at e8
            split at e8
            · rename_i pn8
              cases e8
              have r7 := r'.wiped q' ow
              rw [wb] at r7
              exact ⟨Φ', _, acc', r7.air (.perm List.perm_middle), pn8, h8⟩
            · cases e8
          refine ⟨Φ6, τ4, _, r6, quietRun h4 fun b τ5 e5 h5 H7 Φ7 r7 => ?_⟩
          cases b with
          | false =>
            rw [if_neg Bool.false_ne_true] at h5 ⊢
            exact fin r7 qD h5
          | true =>
            rw [if_pos rfl] at h5 ⊢
            refine ⟨Φ7, τ5, _, r7, quietRun h5 fun s τ6 e6 h6 y H8 Φ8 r8 => ?_⟩
            obtain ⟨yd, τ9, e9, h9⟩ := bnd_ok h6
            obtain ⟨Φ9, r9⟩ := Rl.taken r8 e9
            obtain ⟨u, τa, ea, ha⟩ := bnd_ok h9
            have fl : fitL (acc.length + 1) = some u ∧ τa = τ9 := by
              unfold M.of at ea
              split at ea
              · cases ea; exact ⟨by assumption, rfl⟩
              · cases ea
            obtain ⟨fl, rfl⟩ := fl
            have hz := fit_ok fl
            have r10 : Rl F Φ9 H8 σ6 τa ((some (.ref D), .own (.lst acc)) :: ((some y, .val yd) :: (base ++ (valsOf (σ.zip τ1) ++ tm.filter isQ)))) := r9.air (.perm (by
              refine List.Perm.trans ?_ (List.Perm.swap _ _ _)
              exact List.Perm.cons _ List.perm_middle))
            obtain ⟨a, e1, ⟨vs, hs, ft⟩, _, _⟩ := r10.hd
            cases e1
            obtain ⟨yy, e2, fy⟩ := r10.tl.hd
            cases e2
            refine ⟨vs, hs, by rw [ft.length]; omega, ?_⟩
            have r11 := r10.wroteAir (o' := .lst (acc ++ [yd])) (u' := .lst (vs ++ [y])) hs (fun _ z => by cases z) (fun _ z => by cases z) ⟨vs ++ [y], upd_same, FzL.append ft (.cons fy .nil)⟩
            have r12 : Rl F Φ9 (upd H8 D (.lst (vs ++ [y]))) σ6 τa (base ++ ((some (V.ref D), S.own (.lst (acc ++ [yd]))) :: (valsOf (σ.zip τ1) ++ tm.filter isQ))) := r11.air (by
              refine ⟨(some (V.ref D), S.own (.lst (acc ++ [yd]))) :: (base ++ (valsOf (σ.zip τ1) ++ tm.filter isQ)), List.perm_middle.symm, List.Sublist.cons_cons _ (List.sublist_cons_self _ _)⟩)
            exact fin r12 (quiet_app qb fun p hp => by
              rcases List.mem_cons.mp hp with e | hp
              · rw [e]; trivial
              · exact qs p hp) ha
        · have hle : its.length ≤ i := by omega
          rw [List.drop_eq_nil_of_le hle] at h3
          unfold compM at h3
          cases h3
          have r5 : Rl F Φ3 H3 (wipe σ ow) τ2 ([(some (.ref D), .own (.lst ds))] ++ (valsOf (σ.zip τ1) ++ tm.filter isQ)) := r4.air (.of (List.Sublist.cons_cons _ (List.sublist_append_right _ _)))
          exact .inl ⟨y2 hle, h1 (.ref D) H3 Φ3 (r1.unbase.rest r5 (fun p hp => by
            cases hp with
            | head => trivial
            | tail _ h => cases h) pl ok)⟩
      · exact h1.elim
  · exact h1.elim
end
end Mi

/-! ### M10: comprehensions as rules; append, x[i] = v, slices -/
namespace Mi
open PySem PySem.Spec PyProof.Rows L2
section
variable {X : Cx} {F : Fm} {W : WX} {Φ Φ' H H' : Hp} {σ : L2.St} {τ τ1 τ' : List S} {tm : Env1} {elt tg iter : Expr} {ifs : List Expr} {scope : Scope} {pos : Pos} {own : List (Str × Nat)} {is : List Nat} {mi : M (List D × Pin)} {g : MG} {test : M Bool} {me : M S}
abbrev TsM (X : Cx) (F : Fm) (W : WX) (ifs : List Expr) (m : M Bool) : Prop := PTs X ifs (TBm F W m)
theorem em_comp (own : List (Str × Nat)) (ft : Fits X F W) (hi : IM X F W tg iter mi)
    (hg : ∀ (s : Shared) (H : Hp) (C : Addr) (cl : List (Str × Addr)) (fp : List Addr), Fits (X.blk s H scope (compEnvC scope cl C X.env) fp) F W0 → GM (X.blk s H scope (compEnvC scope cl C X.env) fp) F W0 tg is g)
    (ht : ∀ (s : Shared) (H : Hp) (C : Addr) (cl : List (Str × Addr)) (fp : List Addr), Fits (X.blk s H scope (compEnvC scope cl C X.env) fp) F W0 → TsM (X.blk s H scope (compEnvC scope cl C X.env) fp) F W0 ifs test)
    (he : ∀ (s : Shared) (H : Hp) (C : Addr) (cl : List (Str × Addr)) (fp : List Addr), Fits (X.blk s H scope (compEnvC scope cl C X.env) fp) F W0 → EM (X.blk s H scope (compEnvC scope cl C X.env) fp) F W0 elt me)
    (ok : blkC X.N X.env.scope scope own = true := by first | kernel_rfl | decide +kernel) (sub : (is.all fun i => (own.map (·.2)).contains i) = true := by decide) (hs : ∀ x, foldedSetIterable iter X.env x = pure x := by intro _; rfl) :
    EM X F W (.ListComp elt [⟨tg, iter, ifs, 0⟩] scope pos) (eComp (own.map (·.2)) mi g test me) :=
  PE.imp (pe_lc ft.calm ft.nd hi (blkOk_by ok) (fun s H C cl fp => hg s H C cl fp (ft.blk s H scope _ fp)) (fun s H C cl fp => ht s H C cl fp (ft.blk s H scope _ fp)) (fun s H C cl fp => he s H C cl fp (ft.blk s H scope _ fp)) hs)
    fun σ H Q h => t_comp (fun i hi => by simpa using List.all_eq_true.mp sub i hi) h
/-- y = [..] on one line -/
theorem sm_setComp (i : Nat) (own : List (Str × Nat)) {y : Str} {py spos : Pos} (ft : Fits X F W) (hi : IM X F W tg iter mi)
    (hg : ∀ (s : Shared) (H : Hp) (C : Addr) (cl : List (Str × Addr)) (fp : List Addr), Fits (X.blk s H scope (compEnvC scope cl C X.env) fp) F W0 → GM (X.blk s H scope (compEnvC scope cl C X.env) fp) F W0 tg is g)
    (ht : ∀ (s : Shared) (H : Hp) (C : Addr) (cl : List (Str × Addr)) (fp : List Addr), Fits (X.blk s H scope (compEnvC scope cl C X.env) fp) F W0 → TsM (X.blk s H scope (compEnvC scope cl C X.env) fp) F W0 ifs test)
    (he : ∀ (s : Shared) (H : Hp) (C : Addr) (cl : List (Str × Addr)) (fp : List Addr), Fits (X.blk s H scope (compEnvC scope cl C X.env) fp) F W0 → EM (X.blk s H scope (compEnvC scope cl C X.env) fp) F W0 elt me)
    (hy : X.N[i]? = some y := by rfl) (hyl : X.env.scope.names.lookup y = some .local := by rfl) (hsw : swapsWith (.ListComp elt [⟨tg, iter, ifs, 0⟩] scope pos) (some (.Name y py)) spos.line X.env = pure true := by exact sw_true rfl rfl rfl (by decide +kernel))
    (ok : blkC X.N X.env.scope scope own = true := by first | kernel_rfl | decide +kernel) (sub : (is.all fun i => (own.map (·.2)).contains i) = true := by decide) (hs : ∀ x, foldedSetIterable iter X.env x = pure x := by intro _; rfl) :
    SM X F W (.Assign [.Name y py] (.ListComp elt [⟨tg, iter, ifs, 0⟩] scope pos) spos) (sAsg i (eComp (own.map (·.2)) mi g test me)) :=
  PS.imp (ps_setLc ft.calm ft.nd hy hyl hsw hi (blkOk_by ok) (fun s H C cl fp => hg s H C cl fp (ft.blk s H scope _ fp)) (fun s H C cl fp => ht s H C cl fp (ft.blk s H scope _ fp)) (fun s H C cl fp => he s H C cl fp (ft.blk s H scope _ fp)) hs)
    fun D σ H ⟨Φ, τ, tm, qt, r, h⟩ => t_comp (fun i hi => by simpa using List.all_eq_true.mp sub i hi) (te_go r (Wp.bnd h) fun s τ1 v H1 Φ1 p r1 => by
      obtain ⟨s', τ2, Φ2, na, r2, k⟩ := give_cases r1 (Wp.bnd p)
      exact k _ _ _ (r2.store na qt i))

/-! #### append, x[i] = v -/
def isL (s : S) : M Unit := fun τ => match s with
  | .ali k => (match τ[k]? with
    | some (.own (.lst _)) => .ok ((), τ)
    | some (.lent _ (.lst _)) => .ok ((), τ)
    | _ => .stuck)
  | _ => .stuck
/-- the list in the slot k is written -/
def onL (k : Nat) (f : List D → Option (List D)) : M Unit := fun τ => match τ[k]? with
  | some (.own (.lst xs)) => (match f xs with
    | some ys => .ok ((), τ.set k (.own (.lst ys)))
    | none => .stuck)
  | some (.lent j (.lst xs)) => (match f xs with
    | some ys => .ok ((), τ.set k (.lent j (.lst ys)))
    | none => .stuck)
  | _ => .stuck
def app1 (d : D) (xs : List D) : Option (List D) := if xs.length < sizeLine then some (xs ++ [d]) else none
def eAppend (mo : M S) (ms : M (List S)) : M S := M.bnd mo fun s => M.bnd (isL s) fun _ => M.bnd ms fun ss => match s, ss with
  | .ali k, [t] => M.bnd (take t) fun d => M.bnd (onL k (app1 d)) fun _ => M.ret (.val .non)
  | _, _ => fun _ => .stuck
theorem onL_cases {tm0 : Env1} {k : Nat} {f : List D → Option (List D)} {K : Unit → List S → Prop} (r : Rl F Φ H σ τ tm) (h : Wp F W tm0 (onL k f τ) K) : ∃ a xs vs ys s s' , σ[k]? = some (some (.ref a)) ∧ H a = some (.lst vs) ∧ FzL F.G Φ vs xs ∧ f xs = some ys ∧ Kin s s' (.lst xs) (.lst ys) ∧ τ[k]? = some s ∧ K () (τ.set k s') := by
  unfold onL at h
  cases e : τ[k]? with
  | none => rw [e] at h; exact h.elim
  | some s =>
    rw [e] at h
    obtain ⟨v, e1, _, o⟩ := r.at e
    cases s with
    | own ob =>
      cases ob with
      | ins _ _ => exact h.elim
      | lst xs =>
        simp only at h
        cases q : f xs with
        | none => rw [q] at h; exact h.elim
        | some ys =>
          rw [q] at h
          obtain ⟨a, e2, ⟨vs, hs, t⟩, _⟩ := o
          subst e2
          exact ⟨a, xs, vs, ys, _, _, e1, hs, t, q, .own _ _, rfl, h⟩
    | lent j ob =>
      cases ob with
      | ins _ _ => exact h.elim
      | lst xs =>
        simp only at h
        cases q : f xs with
        | none => rw [q] at h; exact h.elim
        | some ys =>
          rw [q] at h
          obtain ⟨a, e2, ⟨vs, hs, t⟩, _⟩ := o
          subst e2
          exact ⟨a, xs, vs, ys, _, _, e1, hs, t, q, .lent j _ _, rfl, h⟩
    | raw => exact h.elim
    | non => exact h.elim
    | val _ => exact h.elim
    | ali _ => exact h.elim
theorem isL_cases {tm0 : Env1} {v : V} {s : S} {K : Unit → List S → Prop} (r : Rl F Φ H σ τ ((some v, s) :: tm)) (h : Wp F W tm0 (isL s τ) K) : ∃ a k vs, v = .ref a ∧ s = .ali k ∧ σ[k]? = some (some (.ref a)) ∧ H a = some (.lst vs) ∧ K () τ := by
  unfold isL at h
  cases s with
  | ali k =>
    simp only at h
    obtain ⟨x, s, e1, e2, e3, _⟩ := r.hd
    cases e1
    rw [e3] at h
    obtain ⟨w, e4, _, o⟩ := r.at e3
    rw [e2] at e4
    cases e4
    cases s with
    | own ob =>
      cases ob with
      | ins _ _ => exact h.elim
      | lst xs =>
        obtain ⟨a, e5, ⟨vs, hs, t⟩, _⟩ := o
        cases e5
        exact ⟨a, k, vs, rfl, rfl, e2, hs, h⟩
    | lent j ob =>
      cases ob with
      | ins _ _ => exact h.elim
      | lst xs =>
        obtain ⟨a, e5, ⟨vs, hs, t⟩, _⟩ := o
        cases e5
        exact ⟨a, k, vs, rfl, rfl, e2, hs, h⟩
    | raw => exact h.elim
    | non => exact h.elim
    | val _ => exact h.elim
    | ali _ => exact h.elim
  | _ => exact h.elim
variable {o e : Expr} {mo mv mx : M S} {ms : M (List S)} {apos : Pos}
theorem em_append (ho : EM X F W o mo) (ha : LM X F W [e] ms) (hbase : attributeBase o "append" X.env (eval o X.env) = eval o X.env := by rfl)
    (hfew : ((backTo pos (starEach (e :: []) X.env)).all (fun x => !x.1) && (backToKw pos (keywordEach [] X.env)).all (fun x => x.1.isSome) && decide ((e :: []).length + ([] : List Keyword).length + (if ([] : List Keyword).isEmpty then 0 else 1) < 30)) = true := by rfl)
    (hline : (apos.endLine == pos.line) = true := by rfl) (hs : starEach (e :: []) X.env = (false, eval e X.env) :: starEach [] X.env := by rfl) (hplain : (backTo pos (starEach [] X.env)).any (·.1) = false := by rfl) :
    EM X F W (.Call (.Attribute o "append" apos) [e] [] pos) (eAppend mo ms) := PE.imp (pe_bm PySem.F.plainAttrs_list PySem.F.slot_list_append PySem.F.type_list_append mt_append ho ha hbase hfew hline hs hplain) fun σ H Q ⟨Φ, τ, tm, r, h⟩ => by
  refine te_go r (Wp.bnd h) fun s τ1 v H1 Φ1 p1 r1 => ?_
  obtain ⟨a, k, vs, rfl, rfl, es, hs, p2⟩ := isL_cases r1 (Wp.bnd p1)
  refine ⟨.inl ⟨rfl, vs, .inl (.inl hs)⟩, tl_go r1 (Wp.bnd p2) fun ss τ2 ws H2 Φ2 p3 l r2 => ?_⟩
  cases ss with
  | nil => exact p3.elim
  | cons t ss =>
    cases ss with
    | cons _ _ => exact p3.elim
    | nil =>
      obtain ⟨w, rfl⟩ : ∃ w, ws = [w] := by
        cases ws with
        | nil => cases l
        | cons w ws =>
          cases ws with
          | nil => exact ⟨w, rfl⟩
          | cons _ _ => cases l
      obtain ⟨d, τ3, e1, p4⟩ := take_cases (Wp.bnd p3)
      obtain ⟨Φ3, r3⟩ := Rl.taken (tm := (some (.ref a), .ali k) :: tm) r2 e1
      obtain ⟨y, e2, fy⟩ := r3.hd
      cases e2
      obtain ⟨a', xs, vs', ys, s, s', es', hs', t, q, ks, eτ, k2⟩ := onL_cases r3 (Wp.bnd p4)
      rw [es] at es'
      cases es'
      unfold app1 at q
      split at q
      · rename_i hz
        cases q
        refine ⟨a, vs', w, rfl, rfl, hs', by rw [t.length]; exact hz, ?_⟩
        have r4 := r3.tl.tl.wrote (u' := .lst (vs' ++ [w])) eτ es ks hs' (fun _ z => by cases z) (fun _ z => by cases z) ⟨_, upd_same, FzL.append t (.cons fy .nil)⟩
        exact k2 _ _ _ (r4.val .non)
      · cases q
def setD (i : D) (d : D) (xs : List D) : Option (List D) := match i with
  | .int n => (ixN xs.length n).map fun j => xs.set j d
  | _ => none
def sSetIx (mv mo mi : M S) : M Fl := M.bnd mv fun s => M.bnd (take s) fun d => M.bnd mo fun so => M.bnd mi fun si => M.bnd (peek si) fun i => match so with
  | .ali k => M.bnd (onL k (setD i d)) fun _ => M.ret .nx
  | _ => fun _ => .stuck
theorem sm_setIx {i : Expr} {ei : M S} {tpos : Pos} (hv : EM X F W e mv) (ho : EM X F W o mo) (hi : EM X F W i ei) (hs : swapsWithSole [.Subscript o i tpos] e pos.line X.env = pure false := by rfl) (hw : swappedStores [.Subscript o i tpos] e X.env = pure none := by rfl)
    (h1 : (assignEach [.Subscript o i tpos] X.env).map (·.2) = [assign (.Subscript o i tpos) X.env] := by rfl)
    (ha : ∀ v, assign (.Subscript o i tpos) X.env v = (do
      let ov ← holding [v] (eval o X.env)
      let iv ← holding [v, ov] (eval i X.env)
      standAt tpos
      holding [v, ov, iv] (setItem ov iv v)
      release [v, ov, iv] []) := by intro _; rfl) : SM X F W (.Assign [.Subscript o i tpos] e pos) (sSetIx mv mo ei) := PS.imp (ps_asg hv (pg_sub ho hi set_list ha) hs hw h1) fun D σ H ⟨Φ, τ, tm, qt, r, h⟩ => te_go r (Wp.bnd h) fun s τ1 v H1 Φ1 p1 r1 => by
  obtain ⟨d, τ2, e1, p2⟩ := take_cases (Wp.bnd p1)
  obtain ⟨Φ2, r2⟩ := Rl.taken r1 e1
  refine te_go r2 (Wp.bnd p2) fun so τ3 ov H3 Φ3 p3 r3 => te_go r3 (Wp.bnd p3) fun si τ4 iv H4 Φ4 p4 r4 => ?_
  obtain ⟨ix, e2, p5⟩ := Wp.peek (Wp.bnd p4)
  have rd := r4.peek r4.hd e2
  cases so with
  | ali k =>
    obtain ⟨x, s', e3, es, _⟩ := r4.tl.hd
    cases e3
    obtain ⟨y, e4, fy⟩ := r4.tl.tl.hd
    cases e4
    obtain ⟨a, xs, vs', ys, s, s2, es', hs', t, q, ks, eτ, k2⟩ := onL_cases r4 (Wp.bnd p5)
    rw [es] at es'
    cases es'
    unfold setD at q
    split at q
    · rename_i n
      obtain ⟨jx, e5, e6⟩ := Option.map_eq_some_iff.mp q
      subst e6
      refine ⟨a, vs', n, jx, rfl, rd.int, hs', by rw [t.length]; exact e5, ?_⟩
      have r5 := r4.tl.tl.tl.wrote (u' := .lst (vs'.set jx v)) eτ es ks hs' (fun _ z => by cases z) (fun _ z => by cases z) ⟨_, upd_same, FzL.set jx t fy⟩
      exact k2 _ _ _ r5
    · cases q
  | _ => exact p5.elim

/-! #### slices -/
def cut {α : Type} (xs : List α) (lo hi : Option Int) : List α := (xs.drop (HT.sIx xs.length 0 lo)).take (HT.sIx xs.length xs.length hi - HT.sIx xs.length 0 lo)
def fSl : D → Option Int → Option Int → Option S
  | .lst xs, lo, hi => some (.own (.lst (cut xs lo hi)))
  | .scr xs, lo, hi => some (.own (.lst (cut xs lo hi)))
  | .tup xs, lo, hi => if HT.sIx xs.length 0 lo = 0 ∧ HT.sIx xs.length xs.length hi = xs.length then none else some (.val (.tup (cut xs lo hi)))
  | _, _, _ => none
def asI : D → Option Int
  | .int i => some i
  | _ => none
def pNone : M (Option Int) := M.ret none
def pSome (m : M S) : M (Option Int) := M.bnd m fun s => M.bnd (peek s) fun d => M.bnd (M.of (asI d)) fun i => M.ret (some i)
def TOm (F : Fm) (W : WX) (m : M (Option Int)) : TO := fun σ H Q => ∃ Φ τ tm, Rl F Φ H σ τ tm ∧ Wp F W tm (m τ) fun o τ' => ∀ H' Φ', Rl F Φ' H' σ τ' tm → Q o H'
abbrev OM (X : Cx) (F : Fm) (W : WX) (e : Option Expr) (m : M (Option Int)) : Prop := PO X e (TOm F W m)
theorem PO.imp {e : Option Expr} {t t' : TO} (h : PO X e t) (i : ∀ σ H Q, t' σ H Q → t σ H Q) : PO X e t' := ⟨fun pins s σ H Q I q => h.run pins s σ H Q I (i _ _ _ q)⟩
theorem om_none : OM X F W none pNone := PO.imp po_none fun σ H Q ⟨Φ, τ, tm, r, h⟩ => h H Φ r
theorem om_some (h : EM X F W e mx) : OM X F W (some e) (pSome mx) := PO.imp (po_some h) fun σ H Q ⟨Φ, τ, tm, r, h⟩ => te_go r (Wp.bnd h) fun s τ1 v H1 Φ1 p1 r1 => by
  obtain ⟨d, e1, p2⟩ := Wp.peek (Wp.bnd p1)
  obtain ⟨i, e2, k⟩ := Wp.of (Wp.bnd p2)
  have rd := r1.peek r1.hd e1
  cases d with
  | int j => cases e2; exact ⟨_, rd.int, k H1 Φ1 r1.tl⟩
  | _ => cases e2
def eSl (mx : M S) (ml mh : M (Option Int)) : M S := M.bnd mx fun s => M.bnd ml fun lo => M.bnd mh fun hi => M.bnd (peek s) fun d => M.of (fSl d lo hi)
theorem cut_fz {G : Gx} {vs : List V} {ds : List D} {lo hi : Option Int} (q : FzL G Φ vs ds) : FzL G Φ (cutV vs lo hi) (cut ds lo hi) := by
  unfold cutV cut
  rw [q.length]
  exact FzL.take _ (FzL.drop _ q)
theorem em_sl {lo hi : Option Expr} {ml mh : M (Option Int)} {p2 : Pos} (hK : X.K = F.G.K) (hx : EM X F W e mx) (hl : OM X F W lo ml) (hh : OM X F W hi mh) : EM X F W (.Subscript e (.Slice lo hi none p2) pos) (eSl mx ml mh) := PE.imp (pe_slice (sl_list.or sl_tup) hx hl hh) fun σ H Q ⟨Φ, τ, tm, r, h⟩ => te_go r (Wp.bnd h) fun s τ1 v H1 Φ1 p1 r1 => by
  refine ⟨Φ1, τ1, _, r1, ((Wp.bnd p1).air (Subp.cons' (Subp.of (List.Sublist.refl _)))).mono fun lo' τ2 p2 H2 Φ2 r2 => ⟨Φ2, τ2, _, r2, ((Wp.bnd p2).air (Subp.cons' (Subp.of (List.Sublist.refl _)))).mono fun hi' τ3 p3 H3 Φ3 r3 => ?_⟩⟩
  obtain ⟨d, e1, p4⟩ := Wp.peek (Wp.bnd p3)
  obtain ⟨s', e2, k⟩ := Wp.of p4
  have rd := r3.peek r3.hd e1
  unfold fSl at e2
  split at e2
  · cases e2
    obtain ⟨a, vs, e3, e4, q⟩ := rd.lst r3.le
    exact .inl ⟨a, vs, e3, .inl (.inl e4), fun p hp => k _ _ _ (r3.tl.mine hp (cut_fz q))⟩
  · cases e2
    obtain ⟨a, vs, e3, e4, q⟩ := rd.scr r3.le
    exact .inl ⟨a, vs, e3, by rw [hK]; exact e4, fun p hp => k _ _ _ (r3.tl.mine hp (cut_fz q))⟩
  · split at e2
    · cases e2
    · rename_i hz
      cases e2
      obtain ⟨a, vs, e3, e4, q⟩ := rd.tup r3.le
      exact .inr ⟨a, vs, e3, by rw [hK]; exact e4, by rw [q.length]; exact hz, fun p hp => k _ _ _ (r3.tl.tuple hp (cut_fz q))⟩
  · cases e2
end
end Mi

/-! ### M11: errors raised and caught -/
namespace Mi
open PySem PySem.Spec PyProof.Rows L2

/-- an __init__ that stores its parameters under their names: f ⟨self, v ..⟩ -/
def spExi (K : PySem.W.Frag) (fs : List Str) : Sp := fun vs H Q _ => ∃ (a C : Addr) (ws : List V), vs = .ref a :: ws ∧ ws.length = fs.length ∧ fs.length ≤ 100 ∧ OexC K C ∧ (∀ f ∈ fs, PySem.W.findIn K (.ref C) f = some none) ∧ H a = some (exo a C none) ∧
  ∀ dx, H dx = none → dx ≠ a → Q .non (upd (upd H dx (exd dx (fs.zip ws).reverse)) a (exo a C (some dx)))
structure ExcOk (P : Program) (w : World) (K : PySem.W.Frag) (mg : Str → Option Value) (base : Heap) (G : Gx) (j : Nat) (x : Str) (fs : List Str) : Prop where
  ex : ∃ C fI fd ps, G.cls x = some C ∧ mg x = some (.ref C) ∧ OexC K C ∧ PySem.W.findIn K (.ref C) "__init__" = some (some (.ref fI)) ∧ PySem.W.typeIn K (.ref fI) = some (.type "function") ∧
    FnOk P w K mg base (L2.CX P w) j fI fd ps (spExi K fs) ∧ Binds K fd ps [] ∧ ∀ f ∈ fs, PySem.W.findIn K (.ref C) f = some none
  few : fs.length ≤ 100
def sRaise (x : Str) (fs : List Str) (ms : M (List S)) : M Fl := M.bnd ms fun ss => M.bnd (takeAll ss) fun ds => fun τ => if ds.length = fs.length then .exc x (fs.zip ds).reverse τ else .stuck
section
variable {X : Cx} {F : Fm} {W : WX} {Φ Φ' H H' : Hp} {σ : L2.St} {τ τ' : List S} {tm : Env1}
theorem FzF.append {G : Gx} : ∀ {vs ws : List (Str × V)} {ds es : List (Str × D)}, FzF G Φ vs ds → FzF G Φ ws es → FzF G Φ (vs ++ ws) (ds ++ es)
  | _, _, _, _, .nil, h => h
  | _, _, _, _, .cons h t, q => .cons h (FzF.append t q)
theorem FzF.reverse {G : Gx} : ∀ {vs : List (Str × V)} {ds : List (Str × D)}, FzF G Φ vs ds → FzF G Φ vs.reverse ds.reverse
  | _, _, .nil => .nil
  | _, _, .cons h t => by
    rw [List.reverse_cons, List.reverse_cons]
    exact FzF.append (FzF.reverse t) (.cons h .nil)
theorem FzF.zip {G : Gx} : ∀ {fs : List Str} {vs : List V} {ds : List D}, FzL G Φ vs ds → FzF G Φ (fs.zip vs) (fs.zip ds)
  | [], _, _, _ => .nil
  | _ :: _, _, _, .nil => .nil
  | _ :: _, _, _, .cons h t => .cons h (FzF.zip t)
theorem sm_raise {x : Str} {p p2 p3 : Pos} {a : Expr} {es : List Expr} {j : Nat} {fs : List Str} {ms : M (List S)} (ft : Fits X F W) (hr : Room (j + 1) X.A) (xo : ExcOk X.prog X.w X.K X.mg X.base F.G j x fs) (ha : LM X F W (a :: es) ms) (hg : Gl X x := by rfl) (hdb : (x == ("__debug__" : Str)) = false := by decide) (he : starEach (a :: es) X.env = (false, eval a X.env) :: starEach es X.env := by rfl) (hpl : (backTo p2 (starEach es X.env)).any (·.1) = false := by rfl) :
    SM X F W (.Raise (some (.Call (.Name x p) (a :: es) [] p2)) none p3) (sRaise x fs ms) := by
  obtain ⟨C, fI, fd, ps, gc, gm, T, iC, tI, G, b, nof⟩ := xo.ex
  refine PS.imp (ps_raise ft.calm ft.tk (pmk_oex T iC tI G hr b .nil passL hg gm ha hdb he hpl)) fun D σ H ⟨Φ, τ, tm, qt, r, h⟩ => ?_
  refine tl_go r (Wp.bnd h) fun ss τ1 vs H1 Φ1 p1 l r1 => ?_
  obtain ⟨ds, τ2, e, p2⟩ := takeAll_cases (Wp.bnd p1)
  obtain ⟨Φ2, r2, q⟩ := Rl.takenAll l r1 e
  split at p2
  · rename_i hz
    have lv : vs.length = fs.length := by rw [q.length]; exact hz
    refine ⟨by rw [lv]; have := xo.few; omega, fun a ha' => ⟨a, C, vs, by rw [List.append_nil], lv, xo.few, T, nof, upd_same, fun dx hdx ne => ⟨rfl, dx, (fs.zip vs).reverse, upd_same, ?_, ?_, ?_⟩⟩⟩
    · rw [upd_ne ne, upd_same]
    · rw [upd_ne ne] at hdx
      exact hdx
    · have hn : H1 dx = none := by rw [upd_ne ne] at hdx; exact hdx
      have eH : upd (del (upd (upd (upd H1 a (exo a C none)) dx (exd dx (fs.zip vs).reverse)) a (exo a C (some dx))) a) dx (.xd (fs.zip vs).reverse) = upd H1 dx (.xd (fs.zip vs).reverse) := by
        funext c
        by_cases h1 : c = dx
        · subst h1; rw [upd_same, upd_same]
        · rw [upd_ne h1, upd_ne h1]
          by_cases h2 : c = a
          · subst h2; rw [del_same]; exact ha'.symm
          · rw [del_ne h2, upd_ne h2, upd_ne h1, upd_ne h2]
      rw [eH]
      have r3 := r2.within (o := .xd (fs.zip vs).reverse) hn
      refine p2 (.ref C) (some dx) σ _ _ r3 ⟨C, gc, rfl, .inr ⟨dx, _, rfl, upd_same, ?_⟩⟩
      exact FzF.le (le_upd (r2.fre hn)) (FzF.reverse (FzF.zip q))
  · exact p2.elim

/-! #### caught -/
/-- an exception that landed is tracked from now on -/
theorem track {X : Cx} {pins : List (Addr × Obj)} {σ : L2.St} {H : Hp} {s : Shared} {a C : Addr} {d : Option Addr} {oe : Obj} {vs : Array Value} (I : Inv X pins σ H s) (he : s.heap.get? a = some oe) (hz : Zc (.ref C) d oe) (hd : oe.data = .fields vs) (hn : H a = none) (n0 : X.s_0.heap.get? a = none) (nL : a ≠ X.env.locals) (nC : ∀ y c, X.env.cells.lookup y = some c → c ≠ a)
    (nP : ∀ p ∈ X.pn ++ pins, p.1 ≠ a) : Inv X pins σ (upd H a (exn a C d)) s := by
  have ne : ∀ {b : Addr} {u : HO}, H b = some u → b ≠ a := fun {b u} q => ne_of_none q hn
  refine ⟨I.ok, I.os, I.bare, ⟨I.base.keep, I.base.slot, fun b o e n hx => ?_, I.base.there, fun b xs e => ?_, fun b o u e => ?_, fun b ps e => ?_⟩, I.loc, I.cell, ?_, fun y c e => ?_, fun p hp => ?_, fun b o e => ?_, I.len⟩
  · rw [upd_ne (fun z => by rw [z, n0] at e; cases e)]
    exact I.base.free b o e n hx
  · have q := I.base.tups b xs e
    rw [upd_ne (ne q)]
    exact q
  · have q := I.base.frzs b o u e
    rw [upd_ne (ne q)]
    exact q
  · obtain ⟨more, q⟩ := I.base.tbls b ps e
    exact ⟨more, by rw [upd_ne (ne q)]; exact q⟩
  · rw [upd_ne (Ne.symm nL)]
    exact I.free
  · rw [upd_ne (nC y c e)]
    exact I.freeC y c e
  · obtain ⟨e1, e2, e3, e4, e5⟩ := I.pin p hp
    exact ⟨e1, by rw [upd_ne (nP p hp)]; exact e2, e3, e4, e5⟩
  · by_cases hb : b = a
    · subst hb
      rw [upd_same] at e
      cases e
      refine ⟨⟨oe, vs, he, hz.1, hz.2, hd⟩, ⟨oe, he⟩, fun h1 h2 ⟨oe', vs', q1, q2, q3, q4⟩ k => ⟨oe', vs', k _ q1, q2, q3, q4⟩⟩
    · rw [upd_ne hb] at e
      exact (I.hok b o e).stay (fun c v _ z => z) (fun c hc => by rw [upd_ne (ne hc)]; exact hc) (fun c xs hc => by rw [upd_ne (ne hc)]; exact hc)
/-- the context of a suite behind which the error is kept -/
abbrev suiteK (X : Cx) (a : Addr) (pn : List (Addr × Obj)) : Cx := X.suite a pn
/-- what the clause 'except x as n' wishes -/
def wKeep (K : PySem.W.Frag) (c : Value) (i : Nat) (ts : L2.TS) (Wout : WX) (D : Ends) : WX := fun cls d σ H =>
  ∃ b, PySem.W.exmOne K cls c = some b ∧ (b = true → ∃ C, cls = .ref C ∧ ∀ a, H a = none → ts { nx := fun σ' H' => D.nx (σ'.set i none) H', rt := D.rt, bk := fun σ' H' => D.bk (σ'.set i none) H', ct := fun σ' H' => D.ct (σ'.set i none) H' } (σ.set i (some (.ref a))) (upd H a (exn a C d))) ∧
    (b = false → Wout cls d σ H)
theorem ps_try_keep {x n : Str} {c : Value} {i : Nat} {body suite : List Stmt} {b₀ : Stmt} {np pos pos' : Pos} {tb : WX → L2.TS} {ts : L2.TS} {Wout : WX} (hex : X.ex = []) (hs : X.stack = X.env :: X.outer) (hf : X.env.frame = some X.env.locals) (hN : X.N.Nodup) (hi : X.N[i]? = some n) (hln : X.env.kindOf n = some .local) (hc : Names X x c) (tk : Takes X Wout)
    (hb : ∀ (W : WX) (pn : List (Addr × Obj)) (xe : Value → Shared → Prop), Takes (X.tr pn xe) W → PassesOwn (model X.prog X.w) X.A X.env xe → PSs (X.tr pn xe) body (tb W))
    (hsu : ∀ (a : Addr) (pn : List (Addr × Obj)), PSs (X.suite a pn) (b₀ :: suite) ts) :
    PS X (.Try body [.ExceptHandler (some (.Name x np)) (some n) (b₀ :: suite) pos'] [] [] pos) (fun D σ H => tb (wKeep X.K c i ts Wout D) D σ H) := by
  refine ⟨fun pins s σ H D I h => ?_⟩
  have ok := I.ok
  have hfr : X.A.frames = some (X.env :: X.outer) := by rw [ok.frames, hs]
  have hloc : Loc X.env.scope n := .inl hln
  refine wpAny_Try_except ?_
  refine wpAny_mono ((hb (wKeep X.K c i ts Wout D) (X.pn ++ pins) (fun e s₁ => wpAny (model X.prog X.w) X.A (noteFrame e X.env) (fun _ s₂ => wpAny (model X.prog X.w) X.A (setFlight e none) (fun _ s₃ =>
    wpAny (model X.prog X.w) X.A (handleBy e X.env [.ExceptHandler (some (.Name x np)) (some n) (b₀ :: suite) pos']) (SP X pins D) X.xe s₃) X.xe s₂) X.xe s₁) (fun u s' xx => ?_) PassesOwn.looking).run [] s σ H D (I.toTry _) h) (fun f s1 hsp => ?_) (fun e s1 he => he)
  · obtain ⟨a, B, sI, pins', σ', H', cls, d, rfl, J', nb, up, sky, na, os, ag, b, hb1, hyes, hno⟩ := xx
    have J : Inv X pins σ' H' sI := J'.ofTry ok
    have sky' : Sky B (X.env :: X.outer) a (Zc cls d) X.env.locals s'.heap := by rw [← hs]; exact sky
    show wpAny (model X.prog X.w) X.A (noteFrame (.ref a) X.env) _ _ _
    refine Sky.land Zc.steady hfr hf sky' fun h3 fl3 up3 => ?_
    have J3 : Inv X pins σ' H' { s' with heap := h3 } := J.landed nb fl3.1 (up.trans up3) os ag
    obtain ⟨oe3, vs3, he3, hz3, hd3⟩ := fl3.there
    have notFr : ∀ {h : Heap} {o : Obj} {vs : Array Value}, h.FunFrames B (X.env :: X.outer) → h.get? a = some o → o.data = .fields vs → a ∉ frs (X.env :: X.outer) := fun {h o vs} ff e dd hm => by
      obtain ⟨_, o', e', hnf⟩ := ff.mem hm
      rw [e] at e'; cases e'
      exact hnf _ dd
    have nfr := notFr fl3.2.2.1 he3 hd3
    have nL : a ≠ X.env.locals := fun z => nfr (List.mem_filterMap.mpr ⟨X.env, List.mem_cons_self, by rw [hf, z]⟩)
    have nF : a ∉ X.fs := fun hm => by
      obtain ⟨e, he, q⟩ := List.mem_filterMap.mp hm
      exact nfr (List.mem_filterMap.mpr ⟨e, List.mem_cons_of_mem _ he, q⟩)
    -- the error stood not in the state without it
    have noB : B.get? a = none := fl3.2.1
    have noI : sI.heap.get? a = none := by
      cases q : sI.heap.get? a with
      | none => rfl
      | some o =>
        have := nb a o q (by rw [hs]; exact nfr)
        rw [noB] at this; cases this
    have no0 : X.s_0.heap.get? a = none := by
      cases q : X.s_0.heap.get? a with
      | none => rfl
      | some o =>
        obtain ⟨o', q2⟩ := J.base.there a o q (by rw [hex]; exact fun z => nomatch z)
        rw [noI] at q2; cases q2
    have noC : ∀ y c, X.env.cells.lookup y = some c → c ≠ a := fun y c e z => by
      obtain ⟨v, o, q, _⟩ := J.cell y c e
      rw [z, noI] at q; cases q
    have noP : ∀ p ∈ X.pn ++ pins, p.1 ≠ a := fun p hp z => by
      obtain ⟨q, _⟩ := J.pin p hp
      rw [z, noI] at q; cases q
    have S3 := J3.suite he3 hd3 na nL nF
    refine wpAny_handleBy_cons (codeAny_handlers_test ?_) (by intro q; cases q)
    have LT : PySem.W.Looks (model X.prog X.w) h3 (typeOf (.ref a)) cls := fun A Q E s k q => wpAny_typeOf_ref (k _ _ he3) (by rw [hz3.1]; exact q)
    have LM := PySem.W.exm_one (M := model X.prog X.w) (J3.kIn) LT hb1
    have test : ∀ {Q : Value → Shared → Prop} {E : Value → Shared → Prop}, Q c { s' with heap := h3 } → wpAny (model X.prog X.w) (X.A.mark (some (.ref a))) (eval (.Name x np) X.env) Q E { s' with heap := h3 } := fun {Q E} q => by
      obtain ⟨hg, hdbg, hm | ⟨hm, hv, hnn⟩⟩ := hc
      · exact ld_glob (X := X.suite a ((a, oe3) :: (X.pn ++ pins))) S3 hg hm q hdbg
      · exact ld_blt (X := X.suite a ((a, oe3) :: (X.pn ++ pins))) S3 hg hm hv q hnn hdbg
    refine test (LM.here ?_)
    cases b with
    | true =>
      obtain ⟨C, ecls, hyes2⟩ := hyes rfl
      subst ecls
      refine codeAny_handlers_suite_as ?_
      refine HandSPX.lands_againZ fl3 fun h4 fl4 up4 => ?_
      have J4 : Inv X pins σ' H' { s' with heap := h4 } := J.landed nb fl4.1 ((up.trans up3).trans up4) os ag
      obtain ⟨oe4, vs4, he4, hz4, hd4⟩ := fl4.there
      have J5 := track J4 he4 hz4 hd4 na no0 nL noC noP
      have S4 : Inv (X.suite a (X.pn ++ pins)) [] σ' (upd H' a (exn a C d)) { s' with heap := h4 } := ⟨J5.ok.suite _ _, J5.os, J5.bare, J5.base, J5.loc, J5.cell, J5.free, J5.freeC, fun p hp => J5.pin p (by rw [List.append_nil] at hp; exact hp), J5.hok, J5.len⟩
      have un : ∀ {σ6 : L2.St} {H6 : Hp} {s6 : Shared}, Inv (X.suite a (X.pn ++ pins)) [] σ6 H6 s6 → Inv X pins σ6 H6 s6 := fun I6 => ⟨ok, I6.os, I6.bare, I6.base, I6.loc, I6.cell, I6.free, I6.freeC, fun p hp => I6.pin p (List.mem_append_left _ hp), I6.hok, I6.len⟩
      refine store_ok (X := X.suite a (X.pn ++ pins)) (v := .ref a) S4 hN hi hloc rfl (fun s5 S5 => ?_) (.inr hln)
      refine wpAny_mono ((hsu a (X.pn ++ pins)).run [] s5 _ _ _ S5 (hyes2 a na)) (fun f s6 hsp => ?_) (fun _ _ z => False.elim z)
      have end_ : ∀ {σ6 : L2.St} {H6 : Hp} {Q : Shared → Prop}, Inv (X.suite a (X.pn ++ pins)) [] σ6 H6 s6 → (∀ s7, Inv X pins (σ6.set i none) H6 s7 → Q s7) →
          wpAny (model X.prog X.w) X.A (do bindName X.env n .none; unbindBehindTheSuite X.env n pos') (fun _ s7 => Q s7) X.xe s6 := fun {σ6 H6 Q} S6 hq => gone_ok (un S6) hN hi hln hq
      cases f with
      | next =>
        obtain ⟨σ6, H6, S6, q6⟩ := hsp
        exact end_ S6 fun s7 J7 => ⟨_, _, J7, q6⟩
      | brk =>
        obtain ⟨σ6, H6, S6, q6⟩ := hsp
        exact end_ S6 fun s7 J7 => ⟨_, _, J7, q6⟩
      | cont =>
        obtain ⟨σ6, H6, S6, q6⟩ := hsp
        exact end_ S6 fun s7 J7 => ⟨_, _, J7, q6⟩
      | ret u =>
        obtain ⟨v6, σ6, H6, S6, r6, q6⟩ := hsp
        exact end_ S6 fun s7 J7 => ⟨_, _, _, J7, r6, q6⟩
    | false =>
      show wpAny _ X.A (handleBy (.ref a) X.env []) _ _ _
      refine wpAny_handleBy_nil ?_
      obtain ⟨k1, k2, k3, oe, vs, T, oT, ts', he, hz, hd, h1, hr⟩ := id fl3
      unfold PySem.passOn
      refine wpAny_bind (wpAny_field he hd h1 ?_)
      rw [if_neg (show ¬ ((Value.ref T == Value.none) = true) from by simp)]
      have fin : wpAny (model X.prog X.w) X.A (setFlight (.ref a) X.env.frame) (fun _ s4 => wpAny (model X.prog X.w) X.A (throw (.ref a) : Sem Flow) (SP X pins D) X.xe s4) X.xe { s' with heap := h3 } := by
        rw [hf]
        refine HandSPX.setFlight_upZ fl3 fun h4 hh4 up4 => wpAny_throw (tk _ _ ?_)
        exact ⟨a, B, sI, pins, σ', H', cls, d, rfl, J, nb, (up.trans up3).trans up4, .inr (.inr (by rw [hs]; exact hh4)), na, os, ag, hno rfl⟩
      first
        | exact wpAny_bind (wpAny_pure (wpAny_bind fin))
        | exact wpAny_bind fin
  · cases f with
    | next =>
      obtain ⟨σ', H', J', q⟩ := hsp
      exact wpAny_execs_nil ⟨σ', H', J'.ofTry ok, q⟩
    | brk =>
      obtain ⟨σ', H', J', q⟩ := hsp
      exact ⟨σ', H', J'.ofTry ok, q⟩
    | cont =>
      obtain ⟨σ', H', J', q⟩ := hsp
      exact ⟨σ', H', J'.ofTry ok, q⟩
    | ret u =>
      obtain ⟨v, σ', H', J', r, q⟩ := hsp
      exact ⟨v, σ', H', J'.ofTry ok, r, q⟩
/-! #### try: body, except x as n: suite, mirrored -/
def okFl : Fl → Bool
  | .rt s => retS s
  | _ => true
/-- mt: does the clause take an error of this class -/
def sTry (i : Nat) (mt : Str → Option Bool) (body suite : M Fl) : M Fl := fun τ => match body τ with
  | .exc c fs τ1 => (match mt c with
    | some true => (match suite (τ1.set i (.val (.exc c fs))) with
      | .ok (f, τ2) => if okFl f = true then .ok (f, τ2.set i .non) else .stuck
      | _ => .stuck)
    | some false => .exc c fs τ1
    | none => .stuck)
  | r => r
/-- what the written part says of the clause's class -/
def Catches (K : PySem.W.Frag) (G : Gx) (c : Value) (mt : Str → Option Bool) : Prop := ∀ x C b, mt x = some b → G.cls x = some C → PySem.W.exmOne K (.ref C) c = some b
theorem Rl.unset (r : Rl F Φ H σ τ tm) (qt : Quiet tm) (i : Nat) : Rl F Φ H (σ.set i none) (τ.set i .non) tm := by
  have h := r.wiped qt [i]
  have e1 : wipe σ [i] = σ.set i none := rfl
  have e2 : wipeT [i] τ = τ.set i .non := rfl
  rw [e1, e2] at h
  exact h
theorem sm_try (i : Nat) {x n : Str} {c : Value} {b₀ : Stmt} {body suite : List Stmt} {np pos pos' : Pos} {mb ms : M Fl} {mt : Str → Option Bool} (ft : Fits X F W) (hex : X.ex = []) (hs : X.stack = X.env :: X.outer) (hf : X.env.frame = some X.env.locals) (hc : Names X x c) (ct : Catches X.K F.G c mt)
    (hb : ∀ (W : WX) (pn : List (Addr × Obj)) (xe : Value → Shared → Prop), Fits (X.tr pn xe) F W → BlM (X.tr pn xe) F W body mb)
    (hsu : ∀ (a : Addr) (pn : List (Addr × Obj)), BlM (X.suite a pn) F W0 (b₀ :: suite) ms) (hi : X.N[i]? = some n := by rfl) (hln : X.env.kindOf n = some .local := by rfl) :
    SM X F W (.Try body [.ExceptHandler (some (.Name x np)) (some n) (b₀ :: suite) pos'] [] [] pos) (sTry i mt mb ms) := by
  refine PS.imp (ps_try_keep hex hs hf ft.nd hi hln hc ft.tk (fun W pn xe tk po => hb W pn xe ⟨ft.calm, ft.nd, ft.K, tk, po⟩) hsu) fun D σ H ⟨Φ, τ, tm, qt, r, h⟩ => ?_
  refine ⟨Φ, τ, tm, qt, r, ?_⟩
  unfold sTry at h
  cases e : mb τ with
  | ok p => rw [e] at h; exact h
  | stuck => rw [e] at h; exact h
  | exc cn fs τ1 =>
    rw [e] at h
    simp only at h
    intro cls d σ1 H1 Φ1 r1 xr
    obtain ⟨C, gc, rfl, xf⟩ := xr
    cases q : mt cn with
    | none => rw [q] at h; exact h.elim
    | some b =>
      rw [q] at h
      refine ⟨b, ct cn C b q gc, fun hb => ⟨C, rfl, fun a ha => ?_⟩, fun hb => ?_⟩
      · subst hb
        simp only at h
        have r2 := r1.within (o := exn a C d) ha
        have fz : Fz F.G (upd Φ1 a (exn a C d)) (.ref a) (.exc cn fs) := by
          rcases xf with ⟨rfl, rfl⟩ | ⟨dd, vs, rfl, e1, e2⟩
          · exact .exc0 upd_same gc
          · have l := le_upd (o := exn a C (some dd)) (r1.fre ha)
            exact .exc1 upd_same gc (l _ _ e1) (FzF.le l e2)
        have r3 := (r2.val fz).store (by trivial) qt i
        refine ⟨_, _, tm, qt, r3, ?_⟩
        refine (show Wp F W0 tm (ms (τ1.set i (.val (.exc cn fs)))) _ from ?_)
        cases e2 : ms (τ1.set i (.val (.exc cn fs))) with
        | stuck => simp only [e2] at h; exact h
        | exc c2 fs2 τ2 => simp only [e2] at h; exact h.elim
        | ok p =>
          obtain ⟨f, τ2⟩ := p
          simp only [e2] at h
          cases f with
          | nx => exact fun σ' H' Φ' r' => h _ _ _ (r'.unset qt i)
          | bk => exact fun σ' H' Φ' r' => h _ _ _ (r'.unset qt i)
          | ct => exact fun σ' H' Φ' r' => h _ _ _ (r'.unset qt i)
          | rt s =>
            cases q : retS s with
            | false => simp only [okFl, q, Bool.false_eq_true, if_false] at h; exact h.elim
            | true =>
              simp only [okFl, q, if_true] at h
              refine fun v σ' H' Φ' r' => h v (σ'.set i none) H' Φ' (r'.unset (fun p hp => ?_) i)
              rcases List.mem_cons.mp hp with z | z
              · rw [z]
                cases s <;> first | trivial | cases q
              · exact qt p z
      · subst hb
        exact h (.ref C) d σ1 H1 Φ1 r1 ⟨C, gc, rfl, xf⟩
end
end Mi

/-! ### M12: isinstance, attributes -/
namespace Mi
open PySem PySem.Spec PyProof.Rows L2

/-- what the written part says of the class of instances, of errors -/
structure InsI (K : PySem.W.Frag) (C : Addr) : Prop where
  cl : Cls K C
  ha : PySem.W.findIn K (.ref C) "__class__" = some (some (.builtin "object.__class__"))
  hn : PySem.W.specialIn K (.builtin "object.__class__") "__get__" = some (some (.builtin "getset_descriptor.__get__"))
  htk : PySem.W.takesIn K (.builtin "object.__class__") = some true
  hm : PySem.W.mroIn K C (.type "object") = some true
structure ExcI (K : PySem.W.Frag) (C : Addr) : Prop where
  hcl : (PySem.W.clsIn K C).isSome = true
  hga : PySem.W.findIn K (.ref C) "__getattribute__" = some (some (.builtin "BaseException.__getattribute__"))
  hgt : PySem.W.findIn K (.ref C) "__getattr__" = some none
  hsub : PySem.W.subIn K (.ref C) (.type "BaseException") = some true
  ha : PySem.W.findIn K (.ref C) "__class__" = some (some (.builtin "object.__class__"))
  hn : PySem.W.specialIn K (.builtin "object.__class__") "__get__" = some (some (.builtin "getset_descriptor.__get__"))
  htk : PySem.W.takesIn K (.builtin "object.__class__") = some true
  hm : PySem.W.mroIn K C (.type "object") = some true
  hd : PySem.W.hasDictIn K C = true
inductive TyE (K : PySem.W.Frag) (H : Hp) : V → Value → Prop where
  | base {x : V} {t : Value} (h : TyX K H x t) : TyE K H x t
  | exc0 {a C : Addr} (h : H a = some (exn a C none)) (e : ExcI K C) : TyE K H (.ref a) (.ref C)
  | exc1 {a C dd : Addr} {fs : List (Str × V)} (h : H a = some (exn a C (some dd))) (k : H dd = some (.xd fs)) (e : ExcI K C) : TyE K H (.ref a) (.ref C)
section
variable {X : Cx} {pins : List (Addr × Obj)} {σ : L2.St} {H : Hp} {s : Shared}
theorem exn_at {P : Program} {w : World} {h : Heap} {a C : Addr} {d : Option Addr} (hok : HOk P w H h) (e : H a = some (exn a C d)) : ∃ (oe : Obj) (vs : Array Value), h.get? a = some oe ∧ oe.cls = .ref C ∧ oe.dict = d ∧ oe.data = .fields vs := (hok a _ e).1
theorem exn_inst0 {P : Program} {w : World} {h : Heap} {a C : Addr} (hok : HOk P w H h) (e : H a = some (exn a C none)) : ∃ oe, PySem.W.InstAt h a oe C none := by
  obtain ⟨oe, vs, h1, h2, h3, h4⟩ := exn_at hok e
  exact ⟨oe, h1, h2, by unfold PySem.W.notCls; rw [h4] <;> rfl, by rw [h3]; trivial⟩
theorem exn_inst1 {P : Program} {w : World} {h : Heap} {a C dd : Addr} {fs : List (Str × V)} (hok : HOk P w H h) (e : H a = some (exn a C (some dd))) (k : H dd = some (.xd fs)) : ∃ (oe od : Obj) (mA : Str → Option Value), PySem.W.InstAt h a oe C (some od) ∧ (∀ name, PySem.W.lookIn name od = some (mA name)) ∧ ∀ f, RelO (fs.lookup f) (mA f) := by
  obtain ⟨oe, vs, h1, h2, h3, h4⟩ := exn_at hok e
  obtain ⟨mA, hns, hr⟩ := hok dd _ k
  obtain ⟨od, ho, hl⟩ := lookIn_ns hns
  exact ⟨oe, od, mA, ⟨h1, h2, by unfold PySem.W.notCls; rw [h4] <;> rfl, by rw [h3]; exact ho⟩, hl, hr⟩
theorem kit_ofE {x : V} {u t : Value} (I : Inv X pins σ H s) (rx : RelV x u) (ty : TyE X.K H x t) : ∃ P : Heap → Prop, PySem.W.KitX X.K u t P ∧ P s.heap ∧ u ≠ .builtin "__main__.__loader__#opaque" := by
  cases ty with
  | base h => exact kit_of I rx h
  | @exc0 a C h e =>
    cases (show u = Value.ref a from rx)
    obtain ⟨oe, J⟩ := exn_inst0 I.hok h
    exact ⟨_, PySem.W.kitx_exc e.hcl e.hga e.hgt e.hsub e.ha e.hn e.htk e.hm, J, fun z => nomatch z⟩
  | @exc1 a C dd fs h k e =>
    cases (show u = Value.ref a from rx)
    obtain ⟨oe, od, _, J, _⟩ := exn_inst1 I.hok h k
    exact ⟨_, PySem.W.kitx_exc e.hcl e.hga e.hgt e.hsub e.ha e.hn e.htk e.hm, J, fun z => nomatch z⟩
def rIsE (K : PySem.W.Frag) : List V → Hp → VK → Prop := fun xs H Q => ∃ (x : V) (t : Value) (b : Bool), TyE K H x t ∧
  ((∃ c u, xs = [x, c] ∧ ClsV c u ∧ PySem.W.kitOne K t u = some b) ∨ (∃ tp cs us, xs = [x, .ref tp] ∧ SqT K H tp cs ∧ Paired ClsV cs us ∧ PySem.W.kitAny K t us = some b)) ∧ Q (.bl b) H
theorem call_isE : CallR X (.builtin "isinstance") (rIsE X.K) := by
  intro pins s σ H xs us Q I r h
  obtain ⟨x, t, b, ty, h, q⟩ := h
  rcases h with ⟨c, u, rfl, k, e⟩ | ⟨tp, cs, ws, rfl, hT, k, e⟩
  · obtain ⟨u1, u2, rfl, r1, r2⟩ := vals2 r
    have e2 := k.eq r2
    subst e2
    obtain ⟨P, Z, p, hx⟩ := kit_ofE I r1 ty
    exact PySem.W.kia_one Z I.kIn p e hx fun tk => ⟨.bl b, H, I.tok tk, rfl, q⟩
  · obtain ⟨u1, u2, rfl, r1, r2⟩ := vals2 r
    cases (show u2 = Value.ref tp from r2)
    obtain ⟨P, Z, p, hx⟩ := kit_ofE I r1 ty
    obtain ⟨its, rv, ⟨o, h1, h2, n, h3⟩, _⟩ := I.tuple hT
    have e3 := ClsV.all k rv
    subst e3
    obtain ⟨oc, od, dt, sl⟩ := o
    simp only at h2 h3
    subst h2 h3
    exact PySem.W.kia_tup Z I.kIn p h1 e hx fun tk => ⟨.bl b, H, I.tok tk, rfl, q⟩
end
/-- the kinds of values that isinstance tells apart -/
inductive Tg where
  | bt (n : String) | ins (c : Str) | exc (c : Str)
inductive Cl where
  | bt (n : String) | own (c : Str)
def tagOf : D → Option Tg
  | .non => some (.bt "NoneType")
  | .bl _ => some (.bt "bool")
  | .int _ => some (.bt "int")
  | .str _ => some (.bt "str")
  | .lst _ => some (.bt "list")
  | .tup _ => some (.bt "tuple")
  | .dic _ => some (.bt "dict")
  | .ins c _ => some (.ins c)
  | .exc c _ => some (.exc c)
  | _ => none
def clOf : D → Option Cl
  | .ty n => some (.bt n)
  | .cls c => some (.own c)
  | _ => none
def clsOf : List D → Option (List Cl)
  | [] => some []
  | d :: ds => match clOf d, clsOf ds with
    | some c, some cs => some (c :: cs)
    | _, _ => none
abbrev IsT := Tg → Cl → Option Bool
def isAny (tb : IsT) (t : Tg) : List Cl → Option Bool
  | [] => some false
  | c :: cs => match tb t c with
    | some true => some true
    | some false => isAny tb t cs
    | none => none
def fIsi (tb : IsT) : List D → Option S
  | [x, .tup cs] => match tagOf x, clsOf cs with
    | some t, some (c :: l) => (isAny tb t (c :: l)).map fun b => .val (.bl b)
    | _, _ => none
  | [x, c] => match tagOf x, clOf c with
    | some t, some u => (tb t u).map fun b => .val (.bl b)
    | _, _ => none
  | _ => none
inductive TgV (G : Gx) (K : PySem.W.Frag) : Tg → Value → Prop where
  | bt (n : String) : TgV G K (.bt n) (.type n)
  | ins {c : Str} {C : Addr} (h : G.cls c = some C) : TgV G K (.ins c) (.ref C)
  | exc {c : Str} {C : Addr} (h : G.cls c = some C) : TgV G K (.exc c) (.ref C)
inductive ClV (G : Gx) : Cl → Value → Prop where
  | bt (n : String) : ClV G (.bt n) (.type n)
  | own {c : Str} {C : Addr} (h : G.cls c = some C) : ClV G (.own c) (.ref C)
/-- the table is right -/
structure IsOk (K : PySem.W.Frag) (G : Gx) (tb : IsT) : Prop where
  ok : ∀ t u b vt vu, tb t u = some b → TgV G K t vt → ClV G u vu → PySem.W.kitOne K vt vu = some b
  ins : ∀ c u b C, tb (.ins c) u = some b → G.cls c = some C → InsI K C
  exc : ∀ c u b C, tb (.exc c) u = some b → G.cls c = some C → ExcI K C
section
variable {X : Cx} {F : Fm} {W : WX} {Φ Φ' H H' : Hp} {σ : L2.St} {τ τ' : List S} {tm : Env1} {tb : IsT}
theorem cl_v {v : V} {d : D} {c : Cl} (h : Rdv F Φ H v d) (e : clOf d = some c) : ∃ u, ClsV v u ∧ ClV F.G c u := by
  rcases h with h | ⟨a, o, _, e2, _⟩
  · cases h <;> first | (cases e; done) | skip
    · cases e; exact ⟨_, .ty _, .bt _⟩
    · rename_i g
      cases e; exact ⟨_, .own _, .own g⟩
  · subst e2
    cases o <;> cases e
theorem ty_v {v : V} {d : D} {t : Tg} (ok : IsOk X.K F.G tb) (hK : X.K = F.G.K) (l : Le Φ H) (h : Rdv F Φ H v d) (e : tagOf d = some t) (some_ : ∃ u b, tb t u = some b) : ∃ w, TyE X.K H v w ∧ TgV F.G X.K t w := by
  obtain ⟨u, b, ht⟩ := some_
  rcases h with h | ⟨a, o, e1, e2, q⟩
  · cases h with
    | non => cases e; exact ⟨_, .base (.base .non), .bt _⟩
    | bl b => cases e; exact ⟨_, .base (.base (.bl b)), .bt _⟩
    | int i => cases e; exact ⟨_, .base (.base (.int i)), .bt _⟩
    | str x => cases e; exact ⟨_, .base (.base (.str x)), .bt _⟩
    | ty n => cases e
    | lst h t => cases e; exact ⟨_, .base (.base (.lst (l _ _ h))), .bt _⟩
    | scr h t => cases e
    | tup h t =>
      cases e
      rcases SqT.le h l with (h | ⟨o, h⟩) | ⟨o, its, n, h, hc, _⟩
      · exact ⟨_, .base (.base (.tup h)), .bt _⟩
      · exact ⟨_, .base (.fTuple h), .bt _⟩
      · rw [← hK] at h
        exact ⟨_, .base (.kTuple h hc), .bt _⟩
    | dic h t => cases e; exact ⟨_, .base (.base (.dK (l _ _ h))), .bt _⟩
    | ins h g t =>
      cases e
      have f := ok.ins _ _ _ _ ht g
      exact ⟨_, .base (.base (.ins (l _ _ h) f.cl f.ha f.hn f.htk f.hm)), .ins g⟩
    | exc0 h g =>
      cases e
      exact ⟨_, .exc0 (l _ _ h) (ok.exc _ _ _ _ ht g), .exc g⟩
    | exc1 h g k t =>
      cases e
      exact ⟨_, .exc1 (l _ _ h) (l _ _ k) (ok.exc _ _ _ _ ht g), .exc g⟩
    | cls g => cases e
    | fn g => cases e
  · subst e1 e2
    cases o with
    | lst xs =>
      cases e
      obtain ⟨vs, q1, _⟩ := q
      exact ⟨_, .base (.base (.lst q1)), .bt _⟩
    | ins c fs =>
      cases e
      obtain ⟨C, dx, vs, q1, g, _⟩ := q
      have f := ok.ins _ _ _ _ ht g
      exact ⟨_, .base (.base (.ins q1 f.cl f.ha f.hn f.htk f.hm)), .ins g⟩
theorem cls_v {G : Gx} {Φ H : Hp} (hF : F.G = G) : ∀ {vs : List V} {ds : List D} {l : List Cl}, FzL G Φ vs ds → clsOf ds = some l → ∃ us, Paired ClsV vs us ∧ Paired (ClV G) l us
  | _, [], _, .nil, e => by cases e; exact ⟨[], .nil, .nil⟩
  | _, d :: ds, _, .cons h t, e => by
    unfold clsOf at e
    split at e
    · rename_i c cs e1 e2
      cases e
      subst hF
      obtain ⟨u, q1, q2⟩ := cl_v (H := Φ) (.inl h) e1
      obtain ⟨us, q3, q4⟩ := cls_v rfl t e2 (H := Φ)
      exact ⟨u :: us, .cons q1 q3, .cons q2 q4⟩
    · cases e
theorem any_v (ok : IsOk X.K F.G tb) {t : Tg} {w : Value} (tv : TgV F.G X.K t w) : ∀ {l : List Cl} {us : List Value} {b : Bool}, Paired (ClV F.G) l us → isAny tb t l = some b → PySem.W.kitAny X.K w us = some b
  | [], _, _, .nil, e => by cases e; rfl
  | c :: cs, _, b, .cons h r, e => by
    unfold isAny at e
    unfold PySem.W.kitAny
    cases q : tb t c with
    | none => rw [q] at e; cases e
    | some k =>
      rw [q] at e
      rw [ok.ok _ _ _ _ _ q tv h]
      cases k with
      | true => exact e
      | false => exact any_v ok tv r e
theorem c_isi (ok : IsOk X.K F.G tb) (hK : X.K = F.G.K) : CaS F (fIsi tb) (rIsE X.K) := by
  intro Φ H σ τ tm vs ds s Q rl hd hf k
  unfold fIsi at hf
  split at hf
  · rename_i x cs
    split at hf
    · rename_i t c l e1 e2
      obtain ⟨b, e3, rfl⟩ := Option.map_eq_some_iff.mp hf
      obtain ⟨v, w, rfl, h1, h2⟩ := rd2 hd
      obtain ⟨a, ws, rfl, e5, q⟩ := h2.tup rl.le
      have so : ∃ u b, tb t u = some b := by
        unfold isAny at e3
        cases q : tb t c with
        | none => rw [q] at e3; cases e3
        | some k => exact ⟨c, k, q⟩
      obtain ⟨tv, q1, q2⟩ := ty_v ok hK rl.le h1 e1 so
      obtain ⟨us, q3, q4⟩ := cls_v (F := F) rfl q e2 (H := H)
      exact ⟨v, tv, b, q1, .inr ⟨a, ws, us, rfl, by rw [hK]; exact e5, q3, any_v ok q2 q4 e3⟩, k _ _ _ (rl.val (.bl b))⟩
    · cases hf
  · rename_i x c hc
    split at hf
    · rename_i t u e1 e2
      obtain ⟨b, e3, rfl⟩ := Option.map_eq_some_iff.mp hf
      obtain ⟨v, w, rfl, h1, h2⟩ := rd2 hd
      obtain ⟨tv, q1, q2⟩ := ty_v ok hK rl.le h1 e1 ⟨_, _, e3⟩
      obtain ⟨cu, q3, q4⟩ := cl_v h2 e2
      exact ⟨v, tv, b, q1, .inl ⟨w, cu, rfl, q3, ok.ok _ _ _ _ _ e3 q2 q4⟩, k _ _ _ (rl.val (.bl b))⟩
    · cases hf
  · cases hf
/-! #### attributes -/
/-- the field f of instances of some classes and of errors of some -/
def fldD (f : Str) (is es : List Str) : D → Option S
  | .ins c fs => if is.contains c = true then (fs.lookup f).map .val else none
  | .exc c fs => if es.contains c = true then (fs.lookup f).map .val else none
  | _ => none
structure FldOk (K : PySem.W.Frag) (G : Gx) (f : Str) (is es : List Str) : Prop where
  ins : ∀ c ∈ is, ∀ C, G.cls c = some C → Cls K C ∧ NoAttr K C f
  exc : ∀ c ∈ es, ∀ C, G.cls c = some C → ExcI K C ∧ PySem.W.findIn K (.ref C) f = some none
def tFldE (K : PySem.W.Frag) (te : L2.TE) (f : Str) : L2.TE := fun σ H Q => te σ H fun x H1 => (∃ a C dx fs v, x = .ref a ∧ H1 a = some (.ins C dx fs) ∧ Cls K C ∧ NoAttr K C f ∧ fs.lookup f = some v ∧ Q v H1) ∨
  ∃ (a C dd : Addr) (fs : List (Str × V)) (v : V), x = .ref a ∧ H1 a = some (exn a C (some dd)) ∧ H1 dd = some (.xd fs) ∧ ExcI K C ∧ PySem.W.findIn K (.ref C) f = some none ∧ fs.lookup f = some v ∧ Q v H1
theorem pe_fldE {e : Expr} {f : Str} {te : L2.TE} {pos : Pos} (he : PE X e te) (hb : attributeBase e f X.env (eval e X.env) = eval e X.env := by rfl) : PE X (.Attribute e f pos) (tFldE X.K te f) := by
  refine ⟨fun pins s σ H Q I h => ?_⟩
  refine attr_of hb (thn (he.run pins s σ H _ I h) fun u s1 hh => ?_)
  obtain ⟨x, H1, I1, rx, q⟩ := hh
  rcases q with ⟨a, C, dx, fs, v, rfl, e1, c, n, l, q⟩ | ⟨a, C, dd, fs, v, rfl, e1, e2, xc, no, l, q⟩
  · obtain rfl : u = Value.ref a := rx
    exact getattr_ok I1 e1 c n l fun u' s' I' ru => ⟨v, H1, I', ru, q⟩
  · obtain rfl : u = Value.ref a := rx
    obtain ⟨oe, od, mA, J, hl, hr⟩ := exn_inst1 I1.hok e1 e2
    obtain ⟨u', hu, ru⟩ := RelO.some_of (v := v) (o := mA f) (by rw [← l]; exact hr f)
    exact PySem.HandSPX.exc_get I1.kIn J xc.hga xc.hgt xc.hsub (PySem.W.findObj_own xc.hd no rfl (by rw [hl, hu])) (handed_of ru) ⟨v, H1, I1.tok _, ru, q⟩
theorem em_fld {e : Expr} {f : Str} {ma : M S} {is es : List Str} {pos : Pos} (fo : FldOk X.K F.G f is es) (he : EM X F W e ma) (hb : attributeBase e f X.env (eval e X.env) = eval e X.env := by rfl) : EM X F W (.Attribute e f pos) (eUn (fldD f is es) ma) := PE.imp (pe_fldE he hb) fun σ H Q ⟨Φ, τ, tm, r, h⟩ => te_go r (Wp.bnd h) fun s τ1 v H1 Φ1 p1 r1 => by
  obtain ⟨d, e1, p2⟩ := Wp.peek (Wp.bnd p1)
  obtain ⟨s', e2, k⟩ := Wp.of p2
  have rd := r1.peek r1.hd e1
  unfold fldD at e2
  split at e2
  · split at e2
    · rename_i c fs hc
      obtain ⟨y, e3, rfl⟩ := Option.map_eq_some_iff.mp e2
      obtain ⟨a, C, dx, ws, rfl, e4, g, q⟩ := rd.ins r1.le
      obtain ⟨z, e5, q2⟩ := FzF.look q e3
      obtain ⟨c1, c2⟩ := fo.ins c (by simpa using hc) C g
      exact .inl ⟨a, C, dx, ws, z, rfl, e4, c1, c2, e5, k _ _ _ (r1.tl.val q2)⟩
    · cases e2
  · split at e2
    · rename_i c fs hc
      obtain ⟨y, e3, rfl⟩ := Option.map_eq_some_iff.mp e2
      rcases rd with rd | ⟨a, o, _, e4, _⟩
      · cases rd with
        | exc0 h g => cases e3
        | exc1 h g k' t =>
          obtain ⟨z, e5, q2⟩ := FzF.look t e3
          obtain ⟨c1, c2⟩ := fo.exc c (by simpa using hc) _ g
          exact .inr ⟨_, _, _, _, z, rfl, r1.le _ _ h, r1.le _ _ k', c1, c2, e5, k _ _ _ (r1.tl.val q2)⟩
      · cases o <;> cases e4
    · cases e2
  · cases e2
end
end Mi

/-! ### M13: names of the module as values, defs in slots called, powers, {} , keywords -/
namespace Mi
open PySem PySem.Spec PyProof.Rows L2

/-- the module's names and the world's defs and classes are the same -/
structure GlobOk (mg : Str → Option Value) (G : Gx) : Prop where
  fn : ∀ x a, G.fn x = some a ↔ mg x = some (.ref a)
  cls : ∀ x a, G.cls x = some a ↔ mg x = some (.ref a)
section
variable {X : Cx} {F : Fm} {W : WX} {Φ Φ' H H' : Hp} {σ : L2.St} {τ τ' : List S} {tm : Env1} {x : Str} {pos p : Pos}
theorem em_gfn (go : GlobOk X.mg F.G) {f : Addr} (hm : X.mg x = some (.ref f)) (hg : Gl X x := by rfl) (hd : (x == ("__debug__" : Str)) = false := by decide) : EM X F W (.Name x pos) (eLit (.fn x)) :=
  PE.imp (pe_glob (v := .ref f) hg hm rfl hd) fun σ H Q ⟨Φ, τ, tm, r, h⟩ => h _ _ _ (r.val (.fn ((go.fn _ _).mpr hm)))
theorem em_gcls (go : GlobOk X.mg F.G) {f : Addr} (hm : X.mg x = some (.ref f)) (hg : Gl X x := by rfl) (hd : (x == ("__debug__" : Str)) = false := by decide) : EM X F W (.Name x pos) (eLit (.cls x)) :=
  PE.imp (pe_glob (v := .ref f) hg hm rfl hd) fun σ H Q ⟨Φ, τ, tm, r, h⟩ => h _ _ _ (r.val (.cls ((go.cls _ _).mpr hm)))
theorem em_gty {T : String} (hm : X.mg x = none) (hv : bootBuiltins x = some (.type T) := by decide +kernel) (hg : Gl X x := by rfl) (hn : x ≠ "__name__" := by decide) (hd : (x == ("__debug__" : Str)) = false := by decide) : EM X F W (.Name x pos) (eLit (.ty T)) :=
  PE.imp (pe_bltn (v := .ty T) hg hm hv rfl hn hd) fun σ H Q ⟨Φ, τ, tm, r, h⟩ => h _ _ _ (r.val (.ty T))

/-! #### powers -/
def powFits (i j : Int) : Bool := decide (0 ≤ j) && decide ((Builtin.Int.intBits i : Int) * j ≤ 2 ^ 27)
def fPow : D → D → Option S
  | .int i, .int j => if powFits i j = true then sInt (i ^ j.toNat) else none
  | _, _ => none
def CPowW (i j : Int) : Prop := 0 ≤ j ∧ (Builtin.Int.intBits i : Int) * j ≤ 2 ^ 27
theorem op_powW : OpR X (binaryOp .Pow) (rI CPowW fun i j => .int (i ^ j.toNat)) := opI fun _ _ _ _ _ _ _ hc q => pow_int hc.1 hc.2 q
theorem o_pow : OpS F fPow (rI CPowW fun i j => .int (i ^ j.toNat)) := o_int fun d e s h => by
  unfold fPow at h
  split at h
  · split at h
    · rename_i hz
      obtain ⟨h1, h2⟩ := Bool.and_eq_true_iff.mp hz
      cases h; exact ⟨_, _, rfl, rfl, ⟨of_decide_eq_true h1, of_decide_eq_true h2⟩, rfl⟩
    · cases h
  · cases h

/-! #### {} -/
theorem em_dic : EM X F W (.Dict [] [] pos) (eLit (.dic [])) := PE.imp pe_dnewK fun σ H Q ⟨Φ, τ, tm, r, h⟩ a ha => by
  have r2 := r.within (o := .dK []) ha
  exact h _ _ _ (r2.val (.dic upd_same .nil))

/-! #### a def that stands in a slot, called -/
variable {k i : Nat} {a : Expr} {es : List Expr} {ms : M (List S)}
theorem pe_slotfn {t : L2.TA} (hr : Room k X.A) (tk : Takes X W) (hN : X.N[i]? = some x) (hv : Vis X.env.scope x) (ha : PA X (a :: es) t) (hd : (x == ("__debug__" : Str)) = false := by decide) (hcd : (x == ("__classdict__" : Str)) = false := by decide)
    (he : starEach (a :: es) X.env = (false, eval a X.env) :: starEach es X.env := by rfl) (hpl : (backTo pos (starEach es X.env)).any (·.1) = false := by rfl) :
    PE X (.Call (.Name x p) (a :: es) [] pos) (fun σ H Q => ∃ f fd ps sp, FnOk X.prog X.w X.K X.mg X.base (L2.CX X.prog X.w) k f fd ps sp ∧ PySem.W.keepIn X.K (.ref f) = true ∧ Binds X.K fd ps [] ∧ σ[i]? = some (some (.ref f)) ∧ t σ H fun vs H1 => sp vs H1 Q (WE W σ)) := by
  refine ⟨fun pins s σ H Q I ⟨f, fd, ps, sp, Ok, kp, b, hs, ht⟩ => ?_⟩
  refine wpAny_Call_Name_kw (thn ((pe_var (pos := p) hN hv hd hcd).run pins s σ H (fun v H1 => v = .ref f ∧ H1 = H) I ⟨.ref f, hs, rfl, rfl⟩) fun u s1 ⟨v, H1, I1, r1, q1⟩ => ?_)
  obtain ⟨ev, eH⟩ := q1
  subst ev eH
  cases r1
  refine PySem.W.callWith_K (h₀ := X.base) I.ok.mod.kin kp (thn (ha.run pos pins s1 σ _ _ I1 ht) fun us s2 ⟨vs, H2, I2, r, q⟩ => ⟨I2.kIn, ?_⟩) he hpl
  exact run_fnSD (E := WE W) Ok hr b .nil (passAt tk σ) I2 r (by rw [List.append_nil]; exact q)
def eCallF (i : Nat) (tab : Str → Option Fn) (ms : M (List S)) : M S := fun τ => match τ[i]? with
  | some (.val (.fn g)) => (match tab g with
    | some mf => eCallV mf ms τ
    | none => .stuck)
  | _ => .stuck
theorem em_callF {n : Nat} {tab : Str → Option Fn} (ft : Fits X F W) (go : GlobOk X.mg F.G) (hr : Room k X.A) (df : ∀ g mf, tab g = some mf → DefOk X.prog X.w X.K X.mg X.base F.G k g n mf) (i : Nat) (ha : LM X F W (a :: es) ms) (hN : X.N[i]? = some x := by rfl) (hv : Vis X.env.scope x := by first | exact Or.inl rfl | exact Or.inr (Or.inl rfl) | exact Or.inr (Or.inr rfl)) (hd : (x == ("__debug__" : Str)) = false := by decide) (hcd : (x == ("__classdict__" : Str)) = false := by decide)
    (he : starEach (a :: es) X.env = (false, eval a X.env) :: starEach es X.env := by rfl) (hpl : (backTo pos (starEach es X.env)).any (·.1) = false := by rfl) :
    EM X F W (.Call (.Name x p) (a :: es) [] pos) (eCallF i tab ms) := by
  refine PE.imp (pe_slotfn (i := i) hr ft.tk hN hv ha hd hcd he hpl) fun σ H Q h => ?_
  obtain ⟨Φ, τ, tm, r, h⟩ := h
  unfold eCallF at h
  cases e : τ[i]? with
  | none => rw [e] at h; exact h.elim
  | some s =>
    cases s with
    | val d =>
      cases d with
      | fn g =>
        simp only [e] at h
        cases q : tab g with
        | none => rw [q] at h; exact h.elim
        | some mf =>
          rw [q] at h
          simp only at h
          have dg := df g mf q
          obtain ⟨f, fd, ps, Ok, gm, kp, b⟩ := dg.ex
          obtain ⟨v, e1, _, x, e2, fz⟩ := r.at e
          subst e2
          cases fz with
          | fn hf =>
            have := (go.fn _ _).mp hf
            rw [gm] at this
            cases this
            exact ⟨_, fd, ps, _, Ok, kp, b, e1, t_callV dg.pr (fun ds z => by simpa using dg.ar _ z) ⟨Φ, τ, tm, r, h⟩⟩
      | _ => simp only [e] at h; exact h.elim
    | _ => simp only [e] at h; exact h.elim

/-! #### keywords -/
abbrev KM (X : Cx) (F : Fm) (W : WX) (kws : List Keyword) (m : M (List S)) : Prop := PK X kws (TLm F W m)
theorem PK.imp {X : Cx} {e : List Keyword} {t t' : L2.TA} (h : PK X e t) (i : ∀ σ H Q, t' σ H Q → t σ H Q) : PK X e t' := ⟨fun pos pins s σ H Q I q => h.run pos pins s σ H Q I (i _ _ _ q)⟩
theorem km_nil : KM X F W [] lNil := PK.imp pk_nil fun σ H Q ⟨Φ, τ, tm, rl, h⟩ => h [] H Φ rfl rl
theorem km_cons {nm : Option Str} {kpos : Pos} {kws : List Keyword} {ma : M S} (ha : EM X F W a ma) (hr : KM X F W kws ms) : KM X F W (⟨nm, a, kpos⟩ :: kws) (lCons ma ms) :=
  PK.imp (pk_cons ha hr) fun σ H Q ⟨Φ, τ, tm, rl, h⟩ => te_go rl h.bnd fun s τ1 v H1 Φ1 p1 r1 => tl_go r1 p1.bnd fun ss τ2 vs H2 Φ2 p2 l r2 => p2 (v :: vs) H2 Φ2 (by simp [l]) (r2.air (.perm (by
    show ((vs.map some).zip ss ++ ((some v, s) :: tm)).Perm ((some v, s) :: ((vs.map some).zip ss ++ tm))
    exact List.perm_middle)))
/-- the values in the parameters' order -/
def pick {α : Type} (z : α) (ix : List Nat) (l : List α) : List α := ix.map fun i => l.getD i z
structure KwOk (P : Program) (w : World) (K : PySem.W.Frag) (mg : Str → Option Value) (base : Heap) (G : Gx) (k : Nat) (x : Str) (n : Nat) (ks : List Str) (ix : List Nat) (mf : Fn) : Prop where
  ex : ∃ f fd ps, FnOk P w K mg base (L2.CX P w) k f fd ps (spM G n mf) ∧ mg x = some (.ref f) ∧ PySem.W.keepIn K (.ref f) = true ∧ ∀ (s : Shared) (ws : List Value), ws.length = ks.length → BindsTo s fd ⟨[], ks.zip ws⟩ (ps.zip (pick .none ix ws))
  pr : Proper mf
  ar : ∀ ss, mf ss ≠ .stuck → ss.length = n
  len : ix.length = n
def eCallK (ix : List Nat) (nk : Nat) (mf : Fn) (ms : M (List S)) : M S := M.bnd ms fun ss => M.bnd (takeAll ss) fun ds => fun τ => if ds.length = nk then (match mf ((pick .non ix ds).map S.val) with
  | .ok (r, _) => .ok (r, τ)
  | .exc c fs _ => .exc c fs τ
  | .stuck => .stuck) else .stuck
theorem pick_vals : ∀ {ix : List Nat} {vs : List V} {us : List Value}, Vals vs us → Vals (pick .non ix vs) (pick .none ix us)
  | [], _, _, _ => .nil
  | i :: ix, vs, us, r => by
    refine .cons ?_ (pick_vals (ix := ix) r)
    have : ∀ {i : Nat} {vs : List V} {us : List Value}, Vals vs us → L2.RelV (vs.getD i .non) (us.getD i .none) := fun {i vs us} r => by
      induction r generalizing i with
      | nil => exact (show L2.RelV V.non Value.none from rfl)
      | cons h t ih =>
        cases i with
        | zero => simpa using h
        | succ i => simpa using ih
    exact this r
theorem pick_fz {G : Gx} : ∀ {ix : List Nat} {vs : List V} {ds : List D}, FzL G Φ vs ds → FzL G Φ (pick .non ix vs) (pick .non ix ds)
  | [], _, _, _ => .nil
  | i :: ix, vs, ds, r => by
    refine .cons ?_ (pick_fz (ix := ix) r)
    have : ∀ {i : Nat} {vs : List V} {ds : List D}, FzL G Φ vs ds → Fz G Φ (vs.getD i .non) (ds.getD i .non) := fun {i vs ds} => by
      induction ds generalizing i vs with
      | nil => intro r; cases r; simpa using Fz.non
      | cons d ds ih =>
        intro r
        cases r with
        | cons h t =>
          cases i with
          | zero => simpa using h
          | succ i => simpa using ih t
    exact this r
theorem pe_kwonly {kws : List Keyword} {t : L2.TA} {f : Addr} {fd : FuncData} {ps ks : List Str} {ix : List Nat} {sp : Sp} (Ok : FnOk X.prog X.w X.K X.mg X.base (L2.CX X.prog X.w) k f fd ps sp) (hr : Room k X.A) (tk : Takes X W) (hg : Gl X x) (hm : X.mg x = some (.ref f)) (kp : PySem.W.keepIn X.K (.ref f) = true)
    (hb : ∀ (s : Shared) (ws : List Value), ws.length = ks.length → BindsTo s fd ⟨[], ks.zip ws⟩ (ps.zip (pick .none ix ws))) (hkw : PK X kws t) (hall : (backToKw pos (keywordEach kws X.env)).all (·.1.isSome) = true := by rfl) (hks : (backToKw pos (keywordEach kws X.env)).filterMap (·.1) = ks := by rfl)
    (hdb : (x == ("__debug__" : Str)) = false := by decide) (hpl : ((backTo pos (starEach [] X.env)).any (·.1) || (backToKw pos (keywordEach kws X.env)).any (·.1.isNone)) = false := by rfl) :
    PE X (.Call (.Name x p) [] kws pos) (fun σ H Q => t σ H fun zs H1 => zs.length = ks.length ∧ sp (pick .non ix zs) H1 Q (WE W σ)) := by
  refine ⟨fun pins s σ H Q I h => ?_⟩
  refine wpAny_Call_Name_kw (ld_glob I hg hm ?_ hdb)
  refine PySem.W.callWith_KW0 (h₀ := X.base) I.ok.mod.kin kp hall ?_ hpl
  refine thn (hkw.run pos pins s σ H _ I h) fun ws s2 ⟨zs, H2, I2, rz, hl0, q2⟩ => ⟨I2.kIn, ?_⟩
  rw [hks]
  have r2 := pick_vals (ix := ix) rz
  have hl : (pick .none ix ws).length = ps.length := by rw [← r2.length]; exact Ok.len _ _ _ _ q2
  refine wpAny_call (codeAny_mono (Ok.run X.A X.stack s2 H2 ⟨[], ks.zip ws⟩ (pick .none ix ws) (pick .non ix zs) Q (WE W σ) hr I2.env0 (hb s2 ws (by rw [← rz.length]; exact hl0)) r2 q2) fun r s' hq => ?_)
  cases r with
  | error e => exact passAt tk σ pins H2 s2 e s' I2 hq
  | ok fl =>
    cases fl with
    | ret u => exact I2.after hq
    | next => exact False.elim hq
    | brk => exact False.elim hq
    | cont => exact False.elim hq
theorem t_callK {mf : Fn} {n nk : Nat} {ix : List Nat} {Q : VK} (pr : Proper mf) (hn : ∀ ss, mf ss ≠ .stuck → ss.length = n) (h : TEm F W (eCallK ix nk mf ms) σ H Q) : TLm F W ms σ H fun vs H1 => vs.length = nk ∧ spM F.G n mf (pick .non ix vs) H1 Q (WE W σ) := by
  obtain ⟨Φ, τ, tm, rl, h⟩ := h
  refine tl_go rl h.bnd fun ss τ1 vs H1 Φ1 p1 l r1 => ?_
  obtain ⟨ds, τ2, e, p2⟩ := takeAll_cases (Wp.bnd p1)
  obtain ⟨Φ2, r2, q⟩ := Rl.takenAll l r1 e
  have lq := q.length
  split at p2
  case isFalse => exact p2.elim
  rename_i hz
  refine ⟨by rw [lq]; exact hz, ?_⟩
  have ne : mf ((pick .non ix ds).map S.val) ≠ .stuck := fun z => by
    rw [z] at p2
    exact p2
  refine ⟨Φ2, fun _ => none, (pick .non ix ds).map S.val, hn _ ne, r2.enter0 (pick_fz q), fun s hs => ?_, ?_⟩
  · obtain ⟨d, _, e⟩ := List.mem_map.mp hs
    rw [← e]; trivial
  · cases hm : mf ((pick .non ix ds).map S.val) with
    | stuck => exact ne hm
    | ok p =>
      obtain ⟨r, out⟩ := p
      rw [hm] at p2
      intro v H' Φ' c
      have r3 := r2.after0 c fun _ => rfl
      exact p2 v H' Φ' (r3.handed (H := H1) (P := fun _ => none) r2.dom (fun p hp a ha => r2.there p hp a ha) c.hd (pr _ _ _ hm))
    | exc c fs out =>
      rw [hm] at p2
      intro cls d H' Φ' c1 x
      have r3 := r2.after0 c1 fun _ => rfl
      exact p2 cls d σ H' Φ' r3 x
theorem em_callK {n : Nat} {kws : List Keyword} {mf : Fn} {ks : List Str} {ix : List Nat} (ft : Fits X F W) (hr : Room k X.A) (df : KwOk X.prog X.w X.K X.mg X.base F.G k x n ks ix mf) (ha : KM X F W kws ms) (hall : (backToKw pos (keywordEach kws X.env)).all (·.1.isSome) = true := by rfl) (hks : (backToKw pos (keywordEach kws X.env)).filterMap (·.1) = ks := by rfl)
    (hg : Gl X x := by rfl) (hdb : (x == ("__debug__" : Str)) = false := by decide) (hpl : ((backTo pos (starEach [] X.env)).any (·.1) || (backToKw pos (keywordEach kws X.env)).any (·.1.isNone)) = false := by rfl) :
    EM X F W (.Call (.Name x p) [] kws pos) (eCallK ix ks.length mf ms) := by
  obtain ⟨f, fd, ps, Ok, gm, kp, b⟩ := df.ex
  exact PE.imp (pe_kwonly Ok hr ft.tk hg gm kp b ha hall hks hdb hpl) fun σ H Q h => t_callK df.pr df.ar h
end
end Mi

/-! ### M14: g(lambda: body) -/
namespace Mi
open PySem PySem.Spec PyProof.Rows L2
open LamX (CodeO TabB LamS lamEnv lamCx lam_start2 ExtN Tabs inv_table codeO_ne among_app)

/-- what a body without parameters comes to -/
inductive Th where
  | ok (d : D) | exc (c : Str) (fs : List (Str × D)) | stuck
/-- plain slots alone -/
def only (τ : List S) : List S := τ.map fun s => match s with
  | .val d => .val d
  | _ => .non
def thk (ml : M S) (τ : List S) : Th := match M.bnd ml take (only τ) with
  | .ok (d, _) => .ok d
  | .exc c fs _ => .exc c fs
  | .stuck => .stuck
/-- a() where the slot 0 holds the body -/
def eThunk (o : Th) : M S := fun τ => match τ[0]? with
  | some S.raw => (match o with
    | .ok d => .ok (.val d, τ)
    | .exc c fs => .exc c fs τ
    | .stuck => .stuck)
  | _ => .stuck
/-- the def that is handed it, n names -/
def runG (n : Nat) (m : Th → M Fl) : Th → R S := fun o => match m o (S.raw :: List.replicate (n - 1) S.non) with
  | .ok (f, _) => (match f with
    | .nx => .ok (.val .non)
    | .rt s => if retS s = true then .ok s else .stuck
    | _ => .stuck)
  | .exc c fs _ => .exc c fs []
  | .stuck => .stuck
/-- g(lambda: body); cap: the slots that the body reads -/
def eLam (cap : List Nat) (ml : M S) (g : Th → R S) : M S := M.bnd (takeAll (cap.map .ali)) fun _ => fun τ => match g (thk ml τ) with
  | .ok s => .ok (s, τ)
  | .exc c fs _ => .exc c fs τ
  | .stuck => .stuck
section
variable {F : Fm} {W : WX} {Φ Φ' H H' : Hp} {σ : L2.St} {τ τ' : List S} {tm : Env1}
/-- named slots join the world -/
theorem Rl.frz : ∀ {cap : List Nat} {Φ : Hp} {τ τ' : List S} {ds : List D}, Rl F Φ H σ τ tm → takeAll (cap.map .ali) τ = .ok (ds, τ') → ∃ Φ', Rl F Φ' H σ τ' tm
  | [], Φ, τ, τ', ds, r, e => by
    cases e
    exact ⟨Φ, r⟩
  | i :: cap, Φ, τ, τ', ds, r, e => by
    obtain ⟨d, τ1, e1, e⟩ := bnd_ok e
    obtain ⟨ds', τ2, e2, e⟩ := bnd_ok e
    cases e
    have hs : ∃ s, τ[i]? = some s ∧ s.real := by
      cases h : τ[i]? with
      | none => unfold take at e1; simp only [h] at e1; cases e1
      | some s =>
        refine ⟨s, rfl, ?_⟩
        unfold take at e1
        simp only [h] at e1
        cases s <;> first | trivial | cases e1
    obtain ⟨s, h1, h2⟩ := hs
    obtain ⟨v, e3, _, o⟩ := r.at h1
    have hv : ∃ x, v = some x := by
      cases s with
      | val d => obtain ⟨x, q, _⟩ := o; exact ⟨x, q⟩
      | own o' => obtain ⟨a, q, _⟩ := o; exact ⟨_, q⟩
      | lent j o' => obtain ⟨a, q, _⟩ := o; exact ⟨_, q⟩
      | non => exact h2.elim
      | raw => exact h2.elim
      | ali k => exact h2.elim
    obtain ⟨x, rfl⟩ := hv
    have r1 : Rl F Φ H σ τ ((some x, .ali i) :: tm) := r.put (p := (some x, .ali i)) ⟨x, s, rfl, e3, h1, h2⟩ fun _ _ => apart_none holds_ali
    obtain ⟨Φ1, r2⟩ := r1.taken e1
    exact Rl.frz r2.tl e2
/-- plain slots, of a frame of their own -/
theorem Rl.plain (r : Rl F Φ H σ τ tm) {F' : Fm} (hG : F'.G = F.G) {Φ1 H1 : Hp} (l : Le Φ Φ1) (c : Rl F' Φ1 H1 [] [] []) : Rl F' Φ1 H1 σ (only τ) [] := by
  have nh : ∀ p ∈ σ.zip (only τ), holds p = none := fun p hp => by
    obtain ⟨v, s⟩ := p
    obtain ⟨s', _, e⟩ := List.mem_map.mp (List.of_mem_zip hp).2
    subst e
    cases s' <;> first | exact holds_val | exact holds_non
  refine ⟨by unfold only; rw [List.length_map]; exact r.len, fun s hs => ?_, c.le0, c.le, c.pres, c.dom, c.new, fun p hp => ?_, ?_, c.tabs⟩
  · obtain ⟨s', _, e⟩ := List.mem_map.mp hs
    subst e
    cases s' <;> trivial
  · rw [both, List.append_nil] at hp
    obtain ⟨i, hi, e⟩ := List.getElem_of_mem hp
    have hx : (σ.zip (only τ))[i]? = some p := by rw [List.getElem?_eq_getElem hi, e]
    obtain ⟨h1, h2⟩ := List.getElem?_zip_eq_some.mp hx
    unfold only at h2
    rw [List.getElem?_map] at h2
    obtain ⟨s', h3, h4⟩ := Option.map_eq_some_iff.mp h2
    obtain ⟨v, s⟩ := p
    simp only at h1 h4
    subst h4
    obtain ⟨v', e1, _, o⟩ := r.at h3
    rw [h1] at e1
    cases e1
    cases s' with
    | val d =>
      obtain ⟨x, q1, q2⟩ := o
      exact ⟨x, q1, by rw [hG]; exact Fz.le l q2⟩
    | _ => trivial
  · rw [both, List.append_nil, List.pairwise_iff_getElem]
    intro i j hi hj _
    exact apart_none (nh _ (List.getElem_mem hi))
end

section
variable {X : Cx} {pins : List (Addr × Obj)} {σ : L2.St} {H HZ : Hp} {s : Shared}
/-- a body is made; nothing that was known is forgotten -/
theorem lam_madeS {T : List (Addr × Str)} {c P : Addr} {params : Arguments} {body : Expr} {scope : Scope} {pos : Pos} {Ez : Value → Shared → Prop} {Qz : Value → Shared → Prop} (In0 : Inv X pins σ H s) (Tb : TabB X.base X.mg c P) (atC : X.env.code = .ref c)
    (inT : (P, X.env.qual ++ "<lambda>") ∈ T) (onT : ∀ p ∈ T, p.1 = P → p.2 = X.env.qual ++ "<lambda>") (tabs0 : Tabs T H) (nodef : defaultsOf params X.env = ([], [])) (caps : ∀ y ∈ scope.names, y.2 = .free → ∃ c, X.env.cells.lookup y.1 = some c)
    (go : ∀ (f c' : Addr) (pm ctv : Value) (H1 : Hp) (s' : Shared), Inv X pins σ H1 s' → ExtN H H1 → Tabs T H1 → (∀ b, H1 b = none → H b = none) →
      s'.heap.get? f = some (PySem.W.kla_obj "<lambda>" (X.env.qual ++ "<lambda>") params body scope (cloFrom X.env.cells scope.names []) pm c' ctv) → H1 f = none → f ∉ frs X.stack → H1 c' = some (CodeO c' (X.env.qual ++ "<lambda>")) → Qz (.ref f) s') :
    wpAny (model X.prog X.w) X.A (eval (.Lambda params body scope pos) X.env) Qz Ez s := by
  obtain ⟨trip, tabP, okT, among0⟩ := tabs0 _ inT
  refine PySem.W.kla_eval nodef ?_
  have bmP : s.heap.BuiltinsAt X.mg P := Tb.bm.keeps In0.bk
  have tabP' : s.heap.get? P = some { cls := .none, data := .fields trip } := In0.hok P _ tabP
  have noFr : ∀ f, s.heap.objs.size ≤ f → f ∉ frs X.stack := fun f hf z => by
    rcases List.mem_cons.mp (In0.stkSub _ z) with e | e
    · have h1 := In0.lt
      rw [← e] at h1
      exact Nat.lt_irrefl _ (Nat.lt_of_lt_of_le h1 hf)
    · exact In0.nofs hf e
  cases cAm : codeAmong pos trip.toList with
  | none =>
    refine PySem.W.kla_makeFunction (mg := X.mg) (c := c) (P := P) (ps := trip) (closure_ok caps) In0.ok.glob (In0.mod.glob.keeps In0.bk) atC (Tb.code.keeps In0.bk) tabP' okT cAm Tb.gP bmP fun c' ctv hp' tk exX geS ltS hrec htb => ?_
    obtain ⟨c2, oc, vs, t, eq2, hoc, hd, hv⟩ := hrec
    cases eq2
    have leS : s.heap.objs.size ≤ hp'.objs.size := Nat.le_trans geS (Nat.le_of_lt ltS)
    have newC : H c' = none := In0.hok.fresh geS
    have In1 := inv_table (t' := tk) (more := #[rawInt pos.line, rawInt pos.col, .ref c']) (h' := hp'.push (PySem.W.kla_obj "<lambda>" (X.env.qual ++ "<lambda>") params body scope (cloFrom X.env.cells scope.names []) ((X.mg "__name__").getD .none) c' ctv)) In0 tabP
      (fun b o eqP e => Heap.get?_push_of_some _ (exX b o eqP e)) (Heap.get?_push_of_some _ htb) geS ⟨oc, vs, t, Heap.get?_push_of_some _ hoc, hd, hv⟩
    have exN : ExtN H (upd (upd H P (.tbl (trip ++ #[rawInt pos.line, rawInt pos.col, .ref c']))) c' (CodeO c' (X.env.qual ++ "<lambda>"))) := fun b o e n => by
      rw [upd_ne (ne_of_none e newC), upd_ne (fun z => n trip (Option.some.inj (e.symm.trans (by rw [z]; exact tabP))))]
      exact e
    have litE : (trip ++ #[rawInt pos.line, rawInt pos.col, .ref c']).toList = trip.toList ++ [rawInt pos.line, rawInt pos.col, .ref c'] := by simp
    refine go hp'.objs.size c' ((X.mg "__name__").getD .none) ctv _ _ In1 exN (fun p hp => ?_) (fun b z => none_upd b (none_upd b z)) (Heap.get?_push_size _ rfl) ?_ (noFr _ leS) upd_same
    · by_cases eqP : p.1 = P
      · rw [onT p hp eqP, eqP]
        refine ⟨_, by rw [upd_ne (ne_of_none tabP newC), upd_same], by rw [litE]; exact PySem.TriplesOk_snoc _ _ _ _ okT, fun p' cv amV => ?_⟩
        rw [litE] at amV
        rcases among_app _ okT amV with z | z
        · obtain ⟨c0, eq1, eq2⟩ := among0 p' cv z
          exact ⟨c0, eq1, exN _ _ eq2 codeO_ne⟩
        · exact ⟨c', z, upd_same⟩
      · obtain ⟨trip', a1, a2, a3⟩ := tabs0 p hp
        refine ⟨trip', by rw [upd_ne (ne_of_none a1 newC), upd_ne eqP]; exact a1, a2, fun p' cv amV => ?_⟩
        obtain ⟨c0, eq1, eq2⟩ := a3 p' cv amV
        exact ⟨c0, eq1, exN _ _ eq2 codeO_ne⟩
    · have n1 : hp'.objs.size ≠ c' := Nat.ne_of_gt ltS
      have n2 : hp'.objs.size ≠ P := Nat.ne_of_gt (Nat.lt_of_lt_of_le (Heap.lt_size tabP') leS)
      rw [upd_ne n1, upd_ne n2]
      exact In0.hok.fresh leS
  | some cv =>
    obtain ⟨c', e, isC⟩ := among0 pos cv cAm
    subst e
    refine PySem.W.kla_makeFunctionHit (mg := X.mg) (c := c) (P := P) (ps := trip) (closure_ok caps) In0.ok.glob (In0.mod.glob.keeps In0.bk) atC (Tb.code.keeps In0.bk) tabP' okT cAm bmP fun ctv hp' tk exX leS => ?_
    have In1 : Inv X pins σ H { s with heap := hp'.push (PySem.W.kla_obj "<lambda>" (X.env.qual ++ "<lambda>") params body scope (cloFrom X.env.cells scope.names []) ((X.mg "__name__").getD .none) c' ctv), toks := tk } := In0.kept fun b o e => Heap.get?_push_of_some _ (exX b o e)
    exact go hp'.objs.size c' ((X.mg "__name__").getD .none) ctv H _ In1 (ExtN.refl H) tabs0 (fun b z => z) (Heap.get?_push_size _ rfl) (In0.hok.fresh leS) (noFr _ leS) isC
/-- the body called where it was handed: what it may let out is read at the caller's slots -/
theorem pe_actS {qg : Str} {Eg : XK} {Ng : List Str} {sg : Scope} {g f c' : Addr} {cdg pm ctv : Value} {params : Arguments} {body : Expr} {scope : Scope} {k i : Nat} {a : Str} {pn : List (Addr × Obj)} {xe : Value → Shared → Prop} {W : WX} {tb : XK → L2.TE} {p1 p2 : Pos}
    (I : Inv X pins σ H s) (L : LamS X.env.scope scope) (hob : s.heap.get? f = some (PySem.W.kla_obj "<lambda>" (X.env.qual ++ "<lambda>") params body scope (cloFrom X.env.cells scope.names []) pm c' ctv)) (hnew : H f = none) (hout : f ∉ frs X.stack)
    (hba : bindArgs (PySem.W.kla_fn "<lambda>" (X.env.qual ++ "<lambda>") params body scope (cloFrom X.env.cells scope.names []) pm (.ref c') ctv) ⟨[], []⟩ = pure [])
    (tk : Takes ((cxOf (L2.CX X.prog X.w) X.prog X.w X.K X.mg X.base Ng qg sg g cdg X.A X.stack s H Eg).tr pn xe) W) (room : Room (k + 1) (X.A.deeper (envOfC qg sg s.heap.objs.size g cdg)))
    (hbd : ∀ (E : XK) (A : Around) (outer : List Env) (s : Shared) (H : Hp), Room k (A.deeper (lamEnv X scope s.heap.objs.size f c')) → PE (lamCx X A outer s H E scope f c') body (tb E))
    (hN : Ng[i]? = some a) (hv : Vis sg a) (hd : (a == ("__debug__" : Str)) = false) (hcd : (a == ("__classdict__" : Str)) = false) :
    PE ((cxOf (L2.CX X.prog X.w) X.prog X.w X.K X.mg X.base Ng qg sg g cdg X.A X.stack s H Eg).tr pn xe) (.Call (.Name a p1) [] [] p2)
      (fun τ1 H1 Q1 => τ1[i]? = some (some (.ref f)) ∧ H1 c' = some (CodeO c' (X.env.qual ++ "<lambda>")) ∧ tb (WE W τ1) σ H1 Q1) := by
  refine ⟨fun pins1 s1 τ1 H1 Q1 I1 ⟨at1, code1, rd1⟩ => ?_⟩
  refine wpAny_Call_Name_kw (thn ((pe_var (pos := p1) (i := i) hN hv hd hcd).run pins1 s1 τ1 H1 (fun v G => v = .ref f ∧ G = H1) I1 ⟨.ref f, at1, rfl, rfl⟩) fun u s2 ⟨v, G, I2, rv, ev, eG⟩ => ?_)
  subst ev
  subst eG
  obtain rfl : u = Value.ref f := rv
  have of2 := I2.base.keep f _ hob hnew hout (fun z => nomatch (show f ∈ ([] : List Addr) from z))
  refine PySem.W.callWith_F0 ⟨_, _, _, _, of2⟩ ?_
  have un : Un (frs X.stack) [] H G s.heap s2.heap := I2.base
  obtain ⟨⟨oc, vs, t, hoc, hdc, hvc⟩, _, _⟩ := I2.hok c' _ code1
  have run : codeAny (model X.prog X.w) (X.A.deeper (envOfC qg sg s.heap.objs.size g cdg)) (.call (.ref f) ⟨[], []⟩) (CR (L2.CX X.prog X.w) (envOfC qg sg s.heap.objs.size g cdg :: X.stack) X.prog X.w G s2 Q1 (WE W τ1)) s2 := by
    refine PySem.W.kla_callFunE room.depth of2 rfl L.co L.gen rfl ⟨c', oc, vs, t, rfl, hoc, hdc, hvc⟩ ?_
    rw [hba]
    refine wpAny_pure (wpAny_newFunctionEnv (fun y hy => (L.own y hy).2) (fun y hy => absurd hy (by simp)) (fun h₁ ns₁ sb₁ => ⟨I2.nolimit.fresh _ sb₁, ?_⟩) L.kind)
    show codeAny _ _ (.expr body (lamEnv X scope s2.heap.objs.size f c')) _ _
    have kp₁ : ∀ b o, s2.heap.get? b = some o → h₁.get? b = some o := fun b o e => sb₁.extBut b o (Nat.ne_of_lt (Heap.lt_size e)) (Heap.get?_push_of_some _ e)
    have J := lam_start2 (E := WE W τ1) (f := f) (c' := c') (tk := s2.toks + ([] : List (Str × Value)).length) I L I2.env0 room.hd un ns₁ kp₁
    refine PySem.W.kla_codeExpr (wpAny_mono ((hbd (WE W τ1) _ _ s2 G (room.deeper _)).run [] _ _ G Q1 J rd1) (fun v s' ⟨v', H', J', rv, q⟩ => ⟨v', H', J'.os, J'.bare, J'.base, J'.hok, rv, q⟩) fun e s' hq => hq)
  refine wpAny_call (codeAny_mono run fun r s' hq => ?_)
  cases r with
  | error e => exact passAt tk τ1 pins1 G s2 e s' I2 hq
  | ok fl =>
    cases fl with
    | ret u => exact I2.after hq
    | next => exact False.elim hq
    | brk => exact False.elim hq
    | cont => exact False.elim hq
end
/-- what the written part says of the def that is handed a body -/
structure GivOk (P : Program) (w : World) (K : PySem.W.Frag) (mg : Str → Option Value) (base : Heap) (G : Gx) (k : Nat) (x : Str) (gv : Th → R S) : Prop where
  ex : ∃ (a : Str) (g : Addr) (pg : Arguments) (bg : List Stmt) (sg : Scope) (dV kV doc pm cdv ct oc : Value) (an od : Option Addr) (osl : Array (Option Value)) (Ng : List Str) (m : Th → M Fl),
    mg x = some (.ref g) ∧ PySem.W.keepIn K (.ref g) = true ∧ K.lookup g = some ⟨oc, od, .func (PySem.W.fnOf x x pg bg sg dV kV doc pm an cdv ct), osl⟩ ∧ PySem.W.codeIn K cdv x = true ∧ Binds K (PySem.W.fnOf x x pg bg sg dV kV doc pm an cdv ct) [a] [] ∧ FnScope Ng [a] sg ∧
    gv = runG Ng.length m ∧ (a == ("__debug__" : Str)) = false ∧ (a == ("__classdict__" : Str)) = false ∧
    ∀ (A : Around) (outer : List Env) (s : Shared) (H : Hp) (E : XK) (F : Fm) (o : Th), F.G = G → Room k (A.deeper (envOfC x sg s.heap.objs.size g cdv)) →
      (∀ (W : WX) (pn : List (Addr × Obj)) (xe : Value → Shared → Prop) (p1 p2 : Pos), Fits ((cxOf (L2.CX P w) P w K mg base Ng x sg g cdv A outer s H E).tr pn xe) F W → EM ((cxOf (L2.CX P w) P w K mg base Ng x sg g cdv A outer s H E).tr pn xe) F W (.Call (.Name a p1) [] [] p2) (eThunk o)) →
      Fits (cxOf (L2.CX P w) P w K mg base Ng x sg g cdv A outer s H E) F (fun cls d _ H => E cls d H) →
      BlM (cxOf (L2.CX P w) P w K mg base Ng x sg g cdv A outer s H E) F (fun cls d _ H => E cls d H) bg (m o)
/-- where the maker's code object and its table stand -/
structure TabOk (X : Cx) (G : Gx) (c P : Addr) : Prop where
  tb : TabB X.base X.mg c P
  code : X.env.code = .ref c
  mem : (P, X.env.qual ++ "<lambda>") ∈ G.T
  un : ∀ p ∈ G.T, p.1 = P → p.2 = X.env.qual ++ "<lambda>"
section
variable {X : Cx} {F : Fm} {W : WX} {Φ Φ' H H' : Hp} {σ : L2.St} {τ τ' : List S} {tm : Env1}
/-- the frame of the def that is handed a body -/
theorem Rl.enterG (r : Rl F Φ H σ τ tm) {f : Addr} : Rl ⟨F.G, Φ, H, fun _ => none, some f⟩ Φ H [some (.ref f)] [.raw] [] := by
  refine ⟨rfl, fun s hs => ?_, Le.refl _, r.le, (fun b o h _ _ => h), (fun b h => h), (fun b o h => .inl h), fun p hp => ?_, ?_, r.tabs⟩
  · cases hs with
    | head => trivial
    | tail _ h => cases h
  · cases hp with
    | head => exact ⟨f, rfl, rfl⟩
    | tail _ h => cases h
  · exact List.Pairwise.cons (fun _ h => nomatch h) List.Pairwise.nil
theorem Rl.startG {P : Nat → Option Addr} {f : Addr} {G : Gx} {Φ0 H0 : Hp} (r : Rl ⟨G, Φ0, H0, P, some f⟩ Φ H [some (.ref f)] [.raw] []) (N : List Str) : Rl ⟨G, Φ0, H0, P, some f⟩ Φ H (L2.start N [.ref f]) (.raw :: List.replicate (N.length - 1) .non) [] := by
  have z : (L2.start N [V.ref f]).zip (S.raw :: List.replicate (N.length - 1) .non) = (some (V.ref f), S.raw) :: List.replicate (N.length - 1) (none, S.non) := by
    unfold L2.start
    show (some (V.ref f), S.raw) :: (List.replicate (N.length - 1) none).zip (List.replicate (N.length - 1) S.non) = _
    rw [zip_replicate]
  have nn : ∀ p ∈ List.replicate (N.length - 1) ((none : Option V), S.non), p = (none, .non) := fun p hp => List.eq_of_mem_replicate hp
  refine ⟨by unfold L2.start; simp, fun s hs => ?_, r.le0, r.le, r.pres, r.dom, r.new, fun p hp => ?_, ?_, r.tabs⟩
  · rcases List.mem_cons.mp hs with q | q
    · rw [q]; trivial
    · rw [List.eq_of_mem_replicate q]; trivial
  · rw [both, List.append_nil, z] at hp
    rcases List.mem_cons.mp hp with q | q
    · rw [q]; exact ⟨f, rfl, rfl⟩
    · rw [nn p q]; trivial
  · rw [both, List.append_nil, z]
    refine List.pairwise_cons.mpr ⟨fun _ _ => apart_none rfl, ?_⟩
    refine List.Pairwise.imp_of_mem (fun {a b} ha _ _ => ?_) (List.pairwise_replicate.mpr (.inr trivial) : (List.replicate _ ((none : Option V), S.non)).Pairwise (fun _ _ => True))
    rw [nn a ha]
    exact apart_none rfl
/-- a frame without its slots -/
theorem Rl.bare {f : Option Addr} {G : Gx} {Φ0 H0 : Hp} {P : Nat → Option Addr} (r : Rl ⟨G, Φ0, H0, P, f⟩ Φ H σ τ tm) : Rl ⟨G, Φ0, H0, P, none⟩ Φ H [] [] [] :=
  ⟨rfl, (fun _ h => nomatch h), r.le0, r.le, r.pres, r.dom, r.new, (fun _ h => nomatch h), List.Pairwise.nil, r.tabs⟩
/-- a frame of its own, begun here -/
theorem Rl.own0 (r : Rl F Φ H σ τ tm) : Rl ⟨F.G, Φ, H, fun _ => none, none⟩ Φ H [] [] [] :=
  ⟨rfl, (fun _ h => nomatch h), Le.refl _, r.le, (fun b o h _ _ => h), (fun b h => h), (fun b o h => .inl h), (fun _ h => nomatch h), List.Pairwise.nil, r.tabs⟩
/-- the world stays when a body is made -/
theorem Rl.made {H1 : Hp} (r : Rl F Φ H σ τ tm) (e : ExtN H H1) (t : Tabs F.G.T H1) (n : ∀ b, H1 b = none → H b = none) : Rl F Φ H1 σ τ tm := by
  refine r.grow (Le.refl _) (fun b o h => e b o (r.le b o h) fun ps z => ?_) e (fun b o h => .inl h) ⟨t, r.tabs.2⟩ n
  subst z
  exact r.tabs.2 b ps h
/-- behind a call of a frame of its own -/
theorem Rl.afterG {f : Option Addr} (r : Rl F Φ H σ τ tm) (c : Rl ⟨F.G, Φ, H, fun _ => none, f⟩ Φ' H' [] [] []) : Rl F Φ' H' σ τ tm :=
  r.grow c.le0 c.le (fun b o h h2 => c.pres b o h (fun j z => by cases z) h2) (fun b o h => c.new b o h) c.tabs c.dom
theorem em_lam {k : Nat} {x : Str} {g : Th → R S} {c P : Addr} {params : Arguments} {body : Expr} {scope : Scope} {lpos p pos : Pos} {ml : M S} (cap : List Nat) (ft : Fits X F W) (hr : Room (k + 2) X.A) (gv : GivOk X.prog X.w X.K X.mg X.base F.G (k + 1) x g) (tb : TabOk X F.G c P) (hg : Gl X x := by rfl) (hdb : (x == ("__debug__" : Str)) = false := by decide) (L : LamS X.env.scope scope := by exact LamX.lamS_by (by first | kernel_rfl | decide +kernel)) (hdef : defaultsOf params X.env = ([], []) := by rfl)
    (hbind : ∀ (q : Str) (cl : List (Str × Addr)) (pm cv ctv : Value), bindArgs (PySem.W.kla_fn "<lambda>" q params body scope cl pm cv ctv) ⟨[], []⟩ = pure [] := by intros; rfl)
    (hbody : ∀ (A : Around) (outer : List Env) (s : Shared) (H : Hp) (E : XK) (f c' : Addr) (F' : Fm) (W' : WX), F'.G = F.G → Room k (A.deeper (lamEnv X scope s.heap.objs.size f c')) → Fits (lamCx X A outer s H E scope f c') F' W' → EM (lamCx X A outer s H E scope f c') F' W' body ml) :
    EM X F W (.Call (.Name x p) [.Lambda params body scope lpos] [] pos) (eLam cap ml g) := by
  refine ⟨fun pins s σ H Q I ⟨Φ, τ, tm, r, h⟩ => ?_⟩
  obtain ⟨a, ga, pg, bg, sg, dV, kV, doc, pm, cdv, ct, oc, an, od, osl, Ng, m, hm, hk, lk, hcg, hb, Sg, eg, hd, hcd, BD⟩ := gv.ex
  obtain ⟨ds, τ1, e1, p1⟩ := takeAll_cases h.bnd
  obtain ⟨Φ1, r1⟩ := r.frz e1
  refine wpAny_Call_Name_kw (ld_glob I hg hm ?_ hdb)
  refine PySem.W.callWith_K (h₀ := X.base) I.ok.mod.kin hk ?_ (by rfl) (by rfl)
  show wpAny _ _ (spliced ((false, eval (.Lambda params body scope lpos) X.env) :: backTo pos (starEach [] X.env))) _ _ s
  refine Calls.spliced_cons (lam_madeS I tb.tb tb.code tb.mem tb.un r1.tabs.1 hdef (L.has I.ok) fun f c' pm' ctv H1 s' I1 eN T1 nn hf hfn hfr hco => ?_)
  refine Calls.spliced_nil ⟨I1.kIn, ?_⟩
  have r2 := r1.made eN T1 nn
  have hN0 : Ng[0]? = some a := by
    have := Sg.pre
    cases Ng with
    | nil => cases this
    | cons b r => cases this; rfl
  have hva : Vis sg a := by
    rcases Sg.par a List.mem_cons_self with q | q
    · exact .inl q
    · exact .inr (.inl q)
  have rc : codeAny (model X.prog X.w) X.A (.call (.ref ga) ⟨[.ref f], []⟩) (CR (L2.CX X.prog X.w) X.stack X.prog X.w H1 s' Q (WE W σ)) s' := by
    refine LamX.run_ofS (N := Ng) (ps := [a]) (us := [.ref f]) (vs := [.ref f]) lk hcg Sg hr I1.env0 (hb s' [.ref f] I1.kIn rfl) (.cons rfl .nil) rfl fun hr' => ?_
    have tk : Takes (cxOf (L2.CX X.prog X.w) X.prog X.w X.K X.mg X.base Ng x sg ga cdv X.A X.stack s' H1 (WE W σ)) (fun cls d _ H => WE W σ cls d H) := takes_of rfl rfl rfl rfl
    have po : PassesOwn (model X.prog X.w) (cxOf (L2.CX X.prog X.w) X.prog X.w X.K X.mg X.base Ng x sg ga cdv X.A X.stack s' H1 (WE W σ)).A (cxOf (L2.CX X.prog X.w) X.prog X.w X.K X.mg X.base Ng x sg ga cdv X.A X.stack s' H1 (WE W σ)).env (cxOf (L2.CX X.prog X.w) X.prog X.w X.K X.mg X.base Ng x sg ga cdv X.A X.stack s' H1 (WE W σ)).xe := passes_of (X := cxOf (L2.CX X.prog X.w) X.prog X.w X.K X.mg X.base Ng x sg ga cdv X.A X.stack s' H1 (WE W σ)) rfl
    have bl := BD X.A X.stack s' H1 (WE W σ) ⟨F.G, Φ1, H1, fun _ => none, some f⟩ (thk ml τ1) rfl hr' (fun W2 pn xe p1 p2 ft2 => ?_) ⟨rfl, Sg.nd, ft.K, tk, po⟩
    · refine ⟨_, bl, Φ1, _, [], (fun _ h => nomatch h), (r2.enterG (f := f)).startG Ng, ?_⟩
      unfold runG at eg
      rw [eg] at p1
      simp only at p1
      cases q : m (thk ml τ1) (.raw :: List.replicate (Ng.length - 1) .non) with
      | stuck => rw [q] at p1; exact p1.elim
      | exc c1 fs1 τ2 =>
        rw [q] at p1
        exact fun cls d σ' H' Φ' r' x' => p1 cls d σ H' Φ' (r2.afterG r'.bare) x'
      | ok pr =>
        obtain ⟨fl, τ2⟩ := pr
        rw [q] at p1
        cases fl with
        | bk => exact p1.elim
        | ct => exact p1.elim
        | nx => exact fun σ' H' Φ' r' => p1 .non H' Φ' ((r2.afterG r'.bare).val .non)
        | rt s2 =>
          cases q2 : retS s2 with
          | false => simp only [q2, Bool.false_eq_true, if_false] at p1; exact p1.elim
          | true =>
            simp only [q2, if_true] at p1
            exact fun v σ' H' Φ' r' => p1 v H' Φ' (by
              have o : One ⟨F.G, Φ1, H1, fun _ => none, none⟩ Φ' H' σ' τ2 (some v, s2) := by
                cases s2 <;> first | exact r'.hd | cases q2
              exact (r2.afterG r'.bare).handed (H := H1) (P := fun _ => none) r2.dom (fun p hp a ha => r2.there p hp a ha) o q2)
    · refine PE.imp (pe_actS (i := 0) (tb := fun E σ H Q => ∃ F' : Fm, F'.G = F.G ∧ TEm F' (fun cls d _ H => E cls d H) ml σ H Q) I1 L hf hfn hfr (hbind _ _ _ _ _) ft2.tk hr' (fun E A outer s H hr2 => ⟨fun pins' s' σ' H' Q' I' ⟨F', eG, hq⟩ => ?_⟩) hN0 hva hd hcd) fun σZ HZ QZ hz => ?_
      · exact (hbody A outer s H E f c' F' (fun cls d _ H => E cls d H) eG hr2 ⟨rfl, ft.nd, by rw [eG]; exact ft.K, takes_of rfl rfl rfl rfl, passes_of rfl⟩).run pins' s' σ' H' Q' I' hq
      · obtain ⟨ΦZ, τZ, tmZ, rZ, hz⟩ := hz
        unfold eThunk at hz
        cases e0 : τZ[0]? with
        | none => rw [e0] at hz; exact hz.elim
        | some s0 =>
          rw [e0] at hz
          cases s0 with
          | raw =>
            obtain ⟨v, e2, _, fa, e3, e4⟩ := rZ.at e0
            cases e4
            subst e3
            have rL : Rl ⟨F.G, ΦZ, HZ, fun _ => none, none⟩ ΦZ HZ σ (only τ1) [] := r2.plain (F' := ⟨F.G, ΦZ, HZ, fun _ => none, none⟩) rfl rZ.le0 rZ.own0
            refine ⟨e2, rZ.pres c' _ hco (fun j z => by cases z) codeO_ne, ⟨F.G, ΦZ, HZ, fun _ => none, none⟩, rfl, ΦZ, only τ1, [], rL, ?_⟩
            simp only at hz
            unfold thk M.bnd at hz
            cases e5 : ml (only τ1) with
            | stuck => simp only [e5] at hz; exact hz
            | exc c2 fs2 τ2 =>
              simp only [e5] at hz
              exact fun cls d σ' H' Φ' r' x' => hz cls d σZ H' Φ' (rZ.afterG r'.bare) x'
            | ok pr =>
              obtain ⟨s5, τ5⟩ := pr
              simp only [e5] at hz
              cases e6 : take s5 τ5 with
              | stuck => simp only [e6] at hz; exact hz.elim
              | exc c2 fs2 τ2 =>
                exfalso
                unfold take at e6
                split at e6 <;> (first | (cases e6; done) | (split at e6 <;> cases e6))
              | ok pr2 =>
                obtain ⟨d6, τ6⟩ := pr2
                simp only [e6] at hz
                exact fun v H' Φ' r' => by
                  obtain ⟨Φ2, r7⟩ := r'.taken e6
                  obtain ⟨x, ex, fz⟩ := r7.hd
                  cases ex
                  exact hz v H' Φ2 ((rZ.afterG r7.bare).val fz)
          | _ => exact hz.elim
  refine wpAny_call (codeAny_mono rc fun r s2 hq => ?_)
  cases r with
  | error e => exact passAt ft.tk σ pins H1 s' e s2 I1 hq
  | ok fl =>
    cases fl with
    | ret u => exact I1.after hq
    | next => exact False.elim hq
    | brk => exact False.elim hq
    | cont => exact False.elim hq
end
end Mi

/-! ### M15: what the head tells; the end of a law -/
namespace Mi
open PySem PySem.Spec PyProof.Rows L2
open LamX (TabB LawAtS)

/-! #### the world of a law -/
abbrev Tq := He.Defn × Str
def lamQ (q : Str) : Str := (q ++ ".<locals>.") ++ "<lambda>"
def glOf (mg : Str → Option Value) : Str → Option Addr := fun x => match mg x with
  | some (.ref a) => some a
  | _ => none
def gxOf (tq : List Tq) (K : PySem.W.Frag) (mg : Str → Option Value) : Gx := ⟨K, glOf mg, glOf mg, tq.map fun p => ((He.cT K p.1).2, lamQ p.2)⟩
theorem glOf_iff {mg : Str → Option Value} {x : Str} {a : Addr} : glOf mg x = some a ↔ mg x = some (.ref a) := by
  unfold glOf
  split
  · rename_i b h
    rw [h]; simp
  · rename_i h
    constructor
    · intro z; cases z
    · intro z; exact absurd z (h a)
theorem globOk {tq : List Tq} {K : PySem.W.Frag} {mg : Str → Option Value} : GlobOk mg (gxOf tq K mg) := ⟨fun _ _ => glOf_iff, fun _ _ => glOf_iff⟩
structure HdOk (fa : List He.Fa) (fn : List He.DefD) (tq : List Tq) (exs : PySem.W.Frag → List Bool) (K : PySem.W.Frag) (mg : Str → Option Value) (base : Heap) : Prop where
  gl : ∀ x, (He.Fa.glo x).ok K = true → mg x = some (.ref (He.ga K x))
  fr : ∀ x, (He.Fa.free x).ok K = true → mg x = none
  fact : ∀ f ∈ fa, f.ok K = true
  defs : ∀ d ∈ fn, ∃ fd, FunD K d.name d.qual d.params d.body d.scope (d.dvs K) (d.kws K) (He.fAd K d.at_) fd
  more : (exs K).all id = true
  tabs : ∀ p ∈ tq, TabB base mg (He.cT K p.1).1 (He.cT K p.1).2
  ns : ∀ x u, PySem.W.nsIn K mainGlobals x = some (some u) → mg x = some u
section
variable {fa : List He.Fa} {fn : List He.DefD} {tq : List Tq} {exs : PySem.W.Frag → List Bool} {K : PySem.W.Frag} {mg : Str → Option Value} {base : Heap}
theorem HdOk.glo (h : HdOk fa fn tq exs K mg base) (i : Nat) {x : Str} (e : fa[i]? = some (.glo x) := by rfl) : mg x = some (.ref (He.ga K x)) := h.gl x (h.fact _ (List.mem_of_getElem? e))
theorem HdOk.free (h : HdOk fa fn tq exs K mg base) (i : Nat) {x : Str} (e : fa[i]? = some (.free x) := by rfl) : mg x = none := h.fr x (h.fact _ (List.mem_of_getElem? e))
theorem HdOk.df (h : HdOk fa fn tq exs K mg base) (i : Nat) {d : He.DefD} (e : fn[i]? = some d := by rfl) : ∃ fd, FunD K d.name d.qual d.params d.body d.scope (d.dvs K) (d.kws K) (He.fAd K d.at_) fd := h.defs d (List.mem_of_getElem? e)
theorem HdOk.ex (h : HdOk fa fn tq exs K mg base) (i : Nat) {b : Bool} (e : (exs K)[i]? = some b := by rfl) : b = true := List.all_eq_true.mp h.more b (List.mem_of_getElem? e)
theorem HdOk.tab (h : HdOk fa fn tq exs K mg base) (i : Nat) {p : Tq} (e : tq[i]? = some p := by rfl) : TabB base mg (He.cT K p.1).1 (He.cT K p.1).2 := h.tabs p (List.mem_of_getElem? e)
end

/-! #### defs -/
section
variable {P : Program} {w : World} {K : PySem.W.Frag} {mg : Str → Option Value} {base : Heap} {G : Gx} {x : Str} {params : Arguments} {bdy : List Stmt} {scope : Scope} {f : Addr} {fd : FuncData} {N ps : List Str} {k : Nat} {m : M Fl}
theorem fnD {qual : Str} {dvs : List V} {kws : List (Str × V)} (hK : G.K = K) (Fu : FunD K x qual params bdy scope dvs kws f fd) (Sc : FnScope N ps scope)
    (body : ∀ (cdv : Value) (A : Around) (outer : List Env) (s : Shared) (H : Hp) (E : XK) (F : Fm), fd.code = cdv → F.G = G → Room k (A.deeper (envOfC qual scope s.heap.objs.size f cdv)) →
      Fits (cxOf (L2.CX P w) P w K mg base N qual scope f cdv A outer s H E) F (fun cls d _ H => E cls d H) → BlM (cxOf (L2.CX P w) P w K mg base N qual scope f cdv A outer s H E) F (fun cls d _ H => E cls d H) bdy m) :
    FnOk P w K mg base (L2.CX P w) (k + 1) f fd ps (spM G ps.length (runFn ps.length N.length m)) := by
  subst hK
  obtain ⟨oc, od, dV, kV, doc, pm, an, cdv, ct, osl, rfl, lk, hcd, _, _⟩ := Fu.ex
  refine fn_of lk hcd Sc (fun vs H Q E h => ?_) fun A outer s H vs Q E hr h => body_sp Sc hr h fun F eG ft => body cdv A outer s H E F rfl eG hr ft
  obtain ⟨Φ, Pl, ss, l, r, _⟩ := h
  rw [← l]
  simpa using r.len
/-- a def of the module without defaults -/
theorem defOk (hK : G.K = K) (Fu : FunD K x x params bdy scope [] [] f fd) (hm : mg x = some (.ref f)) (Sc : FnScope N ps scope)
    (hb : ∀ (kV doc pm : Value) (an : Option Addr) (cdv ct : Value) (us : List Value), us.length = ps.length → bindArgs (PySem.W.fnOf x x params bdy scope .none kV doc pm an cdv ct) ⟨us, []⟩ = pure (ps.zip us))
    (body : ∀ (cdv : Value) (A : Around) (outer : List Env) (s : Shared) (H : Hp) (E : XK) (F : Fm), fd.code = cdv → F.G = G → Room k (A.deeper (envOfC x scope s.heap.objs.size f cdv)) →
      Fits (cxOf (L2.CX P w) P w K mg base N x scope f cdv A outer s H E) F (fun cls d _ H => E cls d H) → BlM (cxOf (L2.CX P w) P w K mg base N x scope f cdv A outer s H E) F (fun cls d _ H => E cls d H) bdy m) :
    DefOk P w K mg base G (k + 1) x ps.length (runFn ps.length N.length m) :=
  ⟨⟨f, fd, ps, fnD hK Fu Sc body, hm, Fu.kp, Fu.bindsN hb⟩, proper_run, arity_run⟩
theorem DefOk.up {j n : Nat} {mf : Fn} (d : DefOk P w K mg base G j x n mf) (h : j ≤ k) : DefOk P w K mg base G k x n mf := by
  obtain ⟨f, fd, ps, o, hm, kp, b⟩ := d.ex
  exact ⟨⟨f, fd, ps, o.mono h, hm, kp, b⟩, d.pr, d.ar⟩
/-- the same, called by keywords alone -/
theorem kwOk {n : Nat} {mf : Fn} {ks : List Str} {ix : List Nat} (d : DefOk P w K mg base G k x n mf) (Fu : FunD K x x params bdy scope [] [] f fd) (hm : mg x = some (.ref f)) (hl : ix.length = n)
    (hb : ∀ (kV doc pm : Value) (an : Option Addr) (cdv ct : Value) (ws : List Value), ws.length = ks.length → bindArgs (PySem.W.fnOf x x params bdy scope .none kV doc pm an cdv ct) ⟨[], ks.zip ws⟩ = pure (ps.zip (pick .none ix ws)))
    (ok : FnOk P w K mg base (L2.CX P w) k f fd ps (spM G n mf)) : KwOk P w K mg base G k x n ks ix mf := by
  refine ⟨⟨f, fd, ps, ok, hm, Fu.kp, fun s ws hw => ?_⟩, d.pr, d.ar, hl⟩
  obtain ⟨oc, od, dV, kV, doc, pm, an, cdv, ct, osl, rfl, lk, hcd, hD, hK⟩ := Fu.ex
  rcases hD with ⟨_, rfl⟩ | ⟨e, _⟩
  · exact .of_eq (hb kV doc pm an cdv ct ws hw)
  · exact absurd rfl e
/-- a def that is handed a body -/
theorem givOk {a : Str} {mt : Th → M Fl} (hK : G.K = K) (Fu : FunD K x x params bdy scope [] [] f fd) (hm : mg x = some (.ref f)) (Sc : FnScope N [a] scope) (hd : (a == ("__debug__" : Str)) = false) (hcd : (a == ("__classdict__" : Str)) = false)
    (hb : ∀ (kV doc pm : Value) (an : Option Addr) (cdv ct : Value) (us : List Value), us.length = [a].length → bindArgs (PySem.W.fnOf x x params bdy scope .none kV doc pm an cdv ct) ⟨us, []⟩ = pure ([a].zip us))
    (body : ∀ (cdv : Value) (A : Around) (outer : List Env) (s : Shared) (H : Hp) (E : XK) (F : Fm) (o : Th), F.G = G → Room k (A.deeper (envOfC x scope s.heap.objs.size f cdv)) →
      (∀ (W : WX) (pn : List (Addr × Obj)) (xe : Value → Shared → Prop) (p1 p2 : Pos), Fits ((cxOf (L2.CX P w) P w K mg base N x scope f cdv A outer s H E).tr pn xe) F W → EM ((cxOf (L2.CX P w) P w K mg base N x scope f cdv A outer s H E).tr pn xe) F W (.Call (.Name a p1) [] [] p2) (eThunk o)) →
      Fits (cxOf (L2.CX P w) P w K mg base N x scope f cdv A outer s H E) F (fun cls d _ H => E cls d H) → BlM (cxOf (L2.CX P w) P w K mg base N x scope f cdv A outer s H E) F (fun cls d _ H => E cls d H) bdy (mt o)) :
    GivOk P w K mg base G k x (runG N.length mt) := by
  have bd := Fu.bindsN hb
  have kp := Fu.kp
  obtain ⟨oc, od, dV, kV, doc, pm, an, cdv, ct, osl, rfl, lk, hcd', _, _⟩ := Fu.ex
  exact ⟨a, f, params, bdy, scope, dV, kV, doc, pm, cdv, ct, oc, an, od, osl, N, mt, hm, kp, lk, hcd', bd, Sc, rfl, hd, hcd, fun A outer s H E F o eG hr act ft => body cdv A outer s H E F o eG hr act ft⟩
end
/-- the table of a def that makes bodies -/
theorem tabOk {fa : List He.Fa} {fn : List He.DefD} {tq : List Tq} {exs : PySem.W.Frag → List Bool} {X : Cx} {K : PySem.W.Frag} {qual y : Str} {params : Arguments} {bdy : List Stmt} {scope : Scope} {dvs : List V} {kws : List (Str × V)} {p : Tq} {fd : FuncData} (hd : HdOk fa fn tq exs K X.mg X.base) (Fu : FunD K y qual params bdy scope dvs kws (He.fAd K p.1) fd) (hc : fd.code = X.env.code) (i : Nat) (ei : tq[i]? = some p)
    (hq : X.env.qual ++ "<lambda>" = lamQ p.2) (un : ((tq.map fun p => (He.cT K p.1).2).Nodup)) : TabOk X (gxOf tq K X.mg) (He.cT K p.1).1 (He.cT K p.1).2 := by
  have hm := List.mem_of_getElem? ei
  obtain ⟨oc, od, dV, kV, doc, pm, an, cdv, ct, osl, efd, lk, hcd, _, _⟩ := Fu.ex
  have ec : fd.code = cdv := by rw [efd]
  obtain ⟨c, e⟩ := He.codeIn_ref hcd
  have e2 : fd.code = .ref c := ec.trans e
  refine ⟨hd.tabs p hm, ?_, ?_, fun q hq2 e3 => ?_⟩
  · rw [← hc, e2]
    exact congrArg Value.ref (He.codeOf_eq lk e2).symm
  · rw [hq]
    exact List.mem_map.mpr ⟨p, hm, rfl⟩
  · obtain ⟨r, hr, rfl⟩ := List.mem_map.mp hq2
    simp only at e3
    have : r = p := by
      have pw := List.pairwise_map.mp un
      have inj : ∀ {l : List Tq}, l.Pairwise (fun a b => (He.cT K a.1).2 ≠ (He.cT K b.1).2) → r ∈ l → p ∈ l → r = p := fun {l} => by
        induction l with
        | nil => intro _ h; cases h
        | cons z l ih =>
          intro h h1 h2
          obtain ⟨h3, h4⟩ := List.pairwise_cons.mp h
          rcases List.mem_cons.mp h1 with q1 | q1
          · rcases List.mem_cons.mp h2 with q2 | q2
            · rw [q1, q2]
            · exact absurd (by rw [← q1]; exact e3) (h3 p q2)
          · rcases List.mem_cons.mp h2 with q2 | q2
            · exact absurd (by rw [← q2]; exact e3.symm) (h3 r q1)
            · exact ih h4 q1 q2
      exact inj pw hr hm
    rw [this]
    exact hq.symm

/-! #### errors -/
def oexB (K : PySem.W.Frag) (C : Addr) : Bool := (match K.lookup C with
  | some ⟨.type t, _, .cls cd, sl⟩ => (match cd.mro, sl.toList with
    | .ref C' :: bm, [_, _, _, _, some (.builtin n), _] => decide (t = "type") && (decide (C' = C) && (decide (n = "ValueError.__new__") && (!cd.hasDel && (cd.hasDict && PySem.HandSPX.refsVE bm))))
    | _, _ => false)
  | _ => false) && (He.eqO (PySem.W.findIn K (.ref C) "__setattr__") (some (some (.builtin "object.__setattr__"))) && (decide (PySem.W.subIn K (.ref C) (.type "BaseException") = some true) && (decide (PySem.W.typeIn K (.ref C) = some (.type "type")) && PySem.W.keepIn K (.ref C))))
theorem oexB_ok {K : PySem.W.Frag} {C : Addr} (h : oexB K C = true) : OexC K C := by
  obtain ⟨h1, h2⟩ := He.ba h
  obtain ⟨h2, h3⟩ := He.ba h2
  obtain ⟨h3, h4⟩ := He.ba h3
  obtain ⟨h4, h5⟩ := He.ba h4
  refine ⟨?_, He.eqO_ok h2, of_decide_eq_true h3, of_decide_eq_true h4, h5⟩
  split at h1
  · rename_i t dd cd sl lk
    split at h1
    · rename_i C' bm k0 k1 k2 k3 n k5 hm hs
      obtain ⟨q1, h1⟩ := He.ba h1
      obtain ⟨q2, h1⟩ := He.ba h1
      obtain ⟨q3, h1⟩ := He.ba h1
      obtain ⟨q4, h1⟩ := He.ba h1
      obtain ⟨q5, q6⟩ := He.ba h1
      have e1 := of_decide_eq_true q1
      have e2 := of_decide_eq_true q2
      have e3 := of_decide_eq_true q3
      subst e1 e2 e3
      obtain ⟨nm, bs, mro, ns, qn, hd, sn, sub, ab, col, del⟩ := cd
      simp only at hm q4 q5
      have q4' : del = false := by simpa using q4
      subst hm q4' q5
      obtain ⟨l⟩ := sl
      simp only at hs
      subst hs
      exact ⟨nm, qn, ns, bs, bm, sn, sub, ab, col, dd, k0, k1, k2, k3, k5, lk, q6⟩
    · cases h1
  · cases h1
def excIB (K : PySem.W.Frag) (C : Addr) : Bool := (PySem.W.clsIn K C).isSome && (He.eqO (PySem.W.findIn K (.ref C) "__getattribute__") (some (some (.builtin "BaseException.__getattribute__"))) && (He.eqO (PySem.W.findIn K (.ref C) "__getattr__") (some none) && (decide (PySem.W.subIn K (.ref C) (.type "BaseException") = some true) &&
  (He.eqO (PySem.W.findIn K (.ref C) "__class__") (some (some (.builtin "object.__class__"))) && (He.eqO (PySem.W.specialIn K (.builtin "object.__class__") "__get__") (some (some (.builtin "getset_descriptor.__get__"))) && (decide (PySem.W.takesIn K (.builtin "object.__class__") = some true) && (decide (PySem.W.mroIn K C (.type "object") = some true) && PySem.W.hasDictIn K C)))))))
theorem excIB_ok {K : PySem.W.Frag} {C : Addr} (h : excIB K C = true) : ExcI K C := by
  obtain ⟨h1, h⟩ := He.ba h
  obtain ⟨h2, h⟩ := He.ba h
  obtain ⟨h3, h⟩ := He.ba h
  obtain ⟨h4, h⟩ := He.ba h
  obtain ⟨h5, h⟩ := He.ba h
  obtain ⟨h6, h⟩ := He.ba h
  obtain ⟨h7, h⟩ := He.ba h
  obtain ⟨h8, h9⟩ := He.ba h
  exact ⟨h1, He.eqO_ok h2, He.eqO_ok h3, of_decide_eq_true h4, He.eqO_ok h5, He.eqO_ok h6, of_decide_eq_true h7, of_decide_eq_true h8, h9⟩
def insIB (K : PySem.W.Frag) (x : Str) : Bool := (He.Fa.cls x).ok K && (He.eqO (PySem.W.findIn K (.ref (He.ga K x)) "__class__") (some (some (.builtin "object.__class__"))) && (He.eqO (PySem.W.specialIn K (.builtin "object.__class__") "__get__") (some (some (.builtin "getset_descriptor.__get__"))) && (decide (PySem.W.takesIn K (.builtin "object.__class__") = some true) && decide (PySem.W.mroIn K (He.ga K x) (.type "object") = some true))))
theorem insIB_ok {K : PySem.W.Frag} {x : Str} (h : insIB K x = true) : InsI K (He.ga K x) := by
  obtain ⟨h1, h⟩ := He.ba h
  obtain ⟨h5, h⟩ := He.ba h
  obtain ⟨h6, h⟩ := He.ba h
  obtain ⟨h7, h8⟩ := He.ba h
  exact ⟨He.cls_ok h1, He.eqO_ok h5, He.eqO_ok h6, of_decide_eq_true h7, of_decide_eq_true h8⟩
/-! #### isinstance, by a list of what is and what is not -/
def tgEq : Tg → Tg → Bool
  | .bt a, .bt b => decide (a = b)
  | .ins a, .ins b => decide (a = b)
  | .exc a, .exc b => decide (a = b)
  | _, _ => false
def clEq : Cl → Cl → Bool
  | .bt a, .bt b => decide (a = b)
  | .own a, .own b => decide (a = b)
  | _, _ => false
theorem tgEq_ok {a b : Tg} (h : tgEq a b = true) : a = b := by
  cases a <;> cases b <;> first | cases h | exact congrArg _ (of_decide_eq_true h)
theorem clEq_ok {a b : Cl} (h : clEq a b = true) : a = b := by
  cases a <;> cases b <;> first | cases h | exact congrArg _ (of_decide_eq_true h)
abbrev IsL := List (Tg × Cl × Bool)
def isTb (l : IsL) : IsT := fun t c => (l.find? fun e => tgEq e.1 t && clEq e.2.1 c).map (·.2.2)
def tgV (K : PySem.W.Frag) : Tg → Value
  | .bt n => .type n
  | .ins c => .ref (He.ga K c)
  | .exc c => .ref (He.ga K c)
def clV (K : PySem.W.Frag) : Cl → Value
  | .bt n => .type n
  | .own c => .ref (He.ga K c)
def tgB (K : PySem.W.Frag) : Tg → Bool
  | .bt _ => true
  | .ins c => (He.Fa.glo c).ok K && insIB K c
  | .exc c => (He.Fa.glo c).ok K && excIB K (He.ga K c)
def clB (K : PySem.W.Frag) : Cl → Bool
  | .bt _ => true
  | .own c => (He.Fa.glo c).ok K
def isB (l : IsL) (K : PySem.W.Frag) : Bool := l.all fun e => decide (PySem.W.kitOne K (tgV K e.1) (clV K e.2.1) = some e.2.2) && (tgB K e.1 && clB K e.2.1)
theorem isTb_mem {l : IsL} {t : Tg} {c : Cl} {b : Bool} (h : isTb l t c = some b) : (t, c, b) ∈ l := by
  unfold isTb at h
  obtain ⟨e, h1, h2⟩ := Option.map_eq_some_iff.mp h
  have h3 := List.mem_of_find?_eq_some h1
  have h4 := List.find?_some h1
  obtain ⟨q1, q2⟩ := He.ba h4
  have e1 := tgEq_ok q1
  have e2 := clEq_ok q2
  obtain ⟨t', c', b'⟩ := e
  simp only at e1 e2 h2
  subst e1 e2 h2
  exact h3
section
variable {fa : List He.Fa} {fn : List He.DefD} {tq : List Tq} {exs : PySem.W.Frag → List Bool} {K : PySem.W.Frag} {mg : Str → Option Value} {base : Heap}
theorem HdOk.gat (hd : HdOk fa fn tq exs K mg base) {c : Str} {C : Addr} (h : (He.Fa.glo c).ok K = true) (g : (gxOf tq K mg).cls c = some C) : C = He.ga K c := by
  have h1 := hd.gl c h
  rw [glOf_iff.mp g] at h1
  cases h1; rfl
theorem isOk (hd : HdOk fa fn tq exs K mg base) {l : IsL} (h : isB l K = true) : IsOk K (gxOf tq K mg) (isTb l) := by
  have get : ∀ {t c b}, isTb l t c = some b → PySem.W.kitOne K (tgV K t) (clV K c) = some b ∧ tgB K t = true ∧ clB K c = true := fun {t c b} e => by
    have := List.all_eq_true.mp h _ (isTb_mem e)
    obtain ⟨q1, q2⟩ := He.ba this
    obtain ⟨q2, q3⟩ := He.ba q2
    exact ⟨of_decide_eq_true q1, q2, q3⟩
  refine ⟨fun t u b vt vu e ht hu => ?_, fun c u b C e g => ?_, fun c u b C e g => ?_⟩
  · obtain ⟨q1, q2, q3⟩ := get e
    have e1 : vt = tgV K t := by
      cases ht with
      | bt n => rfl
      | ins g => exact congrArg Value.ref (hd.gat (He.ba q2).1 g)
      | exc g => exact congrArg Value.ref (hd.gat (He.ba q2).1 g)
    have e2 : vu = clV K u := by
      cases hu with
      | bt n => rfl
      | own g => exact congrArg Value.ref (hd.gat q3 g)
    rw [e1, e2]
    exact q1
  · obtain ⟨q1, q2, q3⟩ := get e
    obtain ⟨q4, q5⟩ := He.ba q2
    rw [hd.gat q4 g]
    exact insIB_ok q5
  · obtain ⟨q1, q2, q3⟩ := get e
    obtain ⟨q4, q5⟩ := He.ba q2
    rw [hd.gat q4 g]
    exact excIB_ok q5
/-! #### fields, clauses -/
def fldB (f : Str) (is es : List Str) (K : PySem.W.Frag) : Bool := (is.all fun c => (He.Fa.glo c).ok K && ((He.Fa.cls c).ok K && (He.Fa.noat c f).ok K)) && es.all fun c => (He.Fa.glo c).ok K && (excIB K (He.ga K c) && (He.Fa.noat c f).ok K)
theorem fldOk (hd : HdOk fa fn tq exs K mg base) {f : Str} {is es : List Str} (h : fldB f is es K = true) : FldOk K (gxOf tq K mg) f is es := by
  obtain ⟨h1, h2⟩ := He.ba h
  refine ⟨fun c hc C g => ?_, fun c hc C g => ?_⟩
  · obtain ⟨q1, q2⟩ := He.ba (List.all_eq_true.mp h1 c hc)
    obtain ⟨q2, q3⟩ := He.ba q2
    rw [hd.gat q1 g]
    exact ⟨He.cls_ok q2, He.noat_ok q3⟩
  · obtain ⟨q1, q2⟩ := He.ba (List.all_eq_true.mp h2 c hc)
    obtain ⟨q2, q3⟩ := He.ba q2
    rw [hd.gat q1 g]
    exact ⟨excIB_ok q2, He.noat_ok q3⟩
def catB (y : Str) (l : List (Str × Bool)) (K : PySem.W.Frag) : Bool := (He.Fa.glo y).ok K && l.all fun e => (He.Fa.glo e.1).ok K && (He.Fa.exm e.1 y e.2).ok K
theorem catOk (hd : HdOk fa fn tq exs K mg base) {y : Str} {l : List (Str × Bool)} (h : catB y l K = true) : Catches K (gxOf tq K mg) (.ref (He.ga K y)) fun x => l.lookup x := fun x C b e g => by
  obtain ⟨_, h2⟩ := He.ba h
  have hm : (x, b) ∈ l := PySem.mem_of_lookup e
  obtain ⟨q1, q2⟩ := He.ba (List.all_eq_true.mp h2 _ hm)
  rw [hd.gat q1 g]
  exact He.exm_ok q2
theorem HdOk.cat (hd : HdOk fa fn tq exs K mg base) {y : Str} {l : List (Str × Bool)} (h : catB y l K = true) : mg y = some (.ref (He.ga K y)) := hd.gl y (He.ba h).1
/-! #### errors that are made -/
def xokB (x : Str) (fs : List Str) (K : PySem.W.Frag) : Bool := (He.Fa.glo x).ok K && (oexB K (He.ga K x) && (He.eqO (PySem.W.findIn K (.ref (He.ga K x)) "__init__") (some (some (.ref (He.fAd K (x, some "__init__"))))) && (decide (PySem.W.typeIn K (.ref (He.fAd K (x, some "__init__"))) = some (.type "function")) && fs.all fun f => (He.Fa.noat x f).ok K)))
theorem excOk {P : Program} {w : World} {j : Nat} {x : Str} {fs ps : List Str} {fd : FuncData} (hd : HdOk fa fn tq exs K mg base) (h : xokB x fs K = true) (F : FnOk P w K mg base (L2.CX P w) j (He.fAd K (x, some "__init__")) fd ps (spExi K fs)) (b : Binds K fd ps []) (few : fs.length ≤ 100) : ExcOk P w K mg base (gxOf tq K mg) j x fs := by
  obtain ⟨h1, h⟩ := He.ba h
  obtain ⟨h2, h⟩ := He.ba h
  obtain ⟨h3, h⟩ := He.ba h
  obtain ⟨h4, h5⟩ := He.ba h
  have hm := hd.gl x h1
  exact ⟨⟨He.ga K x, _, fd, ps, glOf_iff.mpr hm, hm, oexB_ok h2, He.eqO_ok h3, of_decide_eq_true h4, F, b, fun f hf => He.noat_ok (List.all_eq_true.mp h5 f hf)⟩, few⟩
end
/-- __init__(self, f): self.f = f -/
theorem init1 {P : Program} {w : World} {K : PySem.W.Frag} {mg : Str → Option Value} {base : Heap} {qual g : Str} {params : Arguments} {scope : Scope} {fI : Addr} {fd : FuncData} {p1 p2 p3 p4 : Pos} (Fu : FunD K "__init__" qual params [.Assign [.Attribute (.Name "self" p1) g p2] (.Name g p3) p4] scope [] [] fI fd) (Sc : FnScope ["self", g] ["self", g] scope)
    (d1 : (g == ("__debug__" : Str)) = false) (d2 : (g == ("__classdict__" : Str)) = false) : FnOk P w K mg base (L2.CX P w) 1 fI fd ["self", g] (spExi K [g]) := by
  have vis : ∀ x ∈ (["self", g] : List Str), Vis scope x := fun x hx => by
    rcases Sc.par x hx with q | q
    · exact .inl q
    · exact .inr (.inl q)
  refine Fu.ok Sc (fun vs H Q E h => ?_) (fun cdv A outer s H vs Q E hr h => ⟨_, pss_one (ps_ost (pe_var (i := 0) rfl (vis _ List.mem_cons_self) (by decide) (by decide)) (pe_var (i := 1) rfl (vis _ (List.mem_cons_of_mem _ List.mem_cons_self)) d1 d2)), ?_⟩)
  · obtain ⟨a, C, ws, rfl, hl, _⟩ := h
    simp [hl]
  · obtain ⟨a, C, ws, rfl, hl, _, T, nof, ea, go⟩ := h
    cases ws with
    | nil => cases hl
    | cons y ws =>
      cases ws with
      | cons _ _ => cases hl
      | nil => exact ⟨y, rfl, _, rfl, a, C, rfl, T, nof g List.mem_cons_self, .inl ⟨ea, fun dx n ne => go dx n ne⟩⟩
/-! #### the end -/
def noTab (H : Hp) : Hp := fun b => match H b with
  | some (.tbl _) => none
  | o => o
theorem noTab_le {H : Hp} : Le (noTab H) H := fun b o h => by
  unfold noTab at h
  split at h
  · cases h
  · exact h
theorem noTab_at {H : Hp} {b : Addr} {o : HO} (h : H b = some o) (n : ∀ ps, o ≠ .tbl ps) : noTab H b = some o := by
  unfold noTab
  split
  · rename_i ps e
    rw [e] at h
    exact absurd (Option.some.inj h).symm (n ps)
  · exact h
theorem scr_noTab {K : PySem.W.Frag} {H : Hp} {a : Addr} {xs : List V} (h : SqL K H a xs) : SqL K (noTab H) a xs := by
  rcases h with (h | ⟨o, h⟩) | h
  · exact .inl (.inl (noTab_at h fun _ z => by cases z))
  · exact .inl (.inr ⟨o, noTab_at h fun _ z => by cases z⟩)
  · exact .inr h
theorem fz_ints {G : Gx} {Φ : Hp} : ∀ ns : List Int, FzL G Φ (ns.map V.int) (ns.map D.int)
  | [] => .nil
  | i :: ns => .cons (.int i) (fz_ints ns)
theorem law_sp {G : Gx} {mf : Fn} {H : Hp} {a : Addr} {ns : List Int} (hT : LamX.Tabs G.T H) (hS : SqL G.K H a (ns.map V.int)) (pr : ∃ out, mf [.val (.scr (ns.map D.int))] = .ok (.val (.bl true), out)) : spM G 1 mf [.ref a] H (fun v _ => v = .bl true) fun _ _ _ => False := by
  obtain ⟨out, e⟩ := pr
  have fz : Fz G (noTab H) (.ref a) (.scr (ns.map D.int)) := .scr (scr_noTab hS) (fz_ints ns)
  refine ⟨noTab H, fun _ => none, [.val (.scr (ns.map D.int))], rfl, ⟨rfl, fun s hs => ?_, Le.refl _, noTab_le, (fun b o h _ _ => h), (fun b h => h), (fun b o h => .inl h), fun p hp => ?_, ?_, hT, fun b ps z => ?_⟩, fun s hs => ?_, ?_⟩
  · cases hs with
    | head => trivial
    | tail _ h => cases h
  · cases hp with
    | head => exact ⟨_, rfl, fz⟩
    | tail _ h => cases h
  · exact List.Pairwise.cons (fun _ h => nomatch h) List.Pairwise.nil
  · unfold noTab at z
    split at z
    · cases z
    · rename_i h
      exact h ps z
  · cases hs with
    | head => trivial
    | tail _ h => cases h
  · rw [e]
    intro v H' Φ' r
    obtain ⟨x, ex, q⟩ := r.hd
    cases ex
    cases q
    rfl
/-- the walk of a law from its facts -/
theorem law_walk {l : PySem.W.OpenLaw} {n k : Nat} {q : Program} {loose : List Str} {XP : (Str → Option Value) → Heap → Prop} {d : DefRec} {x : Str} {fa : List He.Fa} {fn : List He.DefD} {ts : List He.Tab} {tq : List Tq} {exs : PySem.W.Frag → List Bool} {mf : Fn} {dl : He.DefD} {nd : Nat} (il ig : Nat)
    (hn : l.most = some n) (hn2 : n ≤ sizeLine) (hdf : d.params.defaults = []) (hr : Room k callerA) (hil : fn[il]? = some dl) (hig : fa[ig]? = some (.glo d.name)) (hat : dl.at_ = (d.name, none)) (h1 : dl.dfl = []) (h2 : dl.kwd = [])
    (hb : ∀ (kV doc pm : Value) (an : Option Addr) (cdv ct : Value) (us : List Value), us.length = [x].length → bindArgs (PySem.W.fnOf dl.name dl.qual dl.params dl.body dl.scope .none kV doc pm an cdv ct) ⟨us, []⟩ = pure ([x].zip us))
    (F : ∀ (w : World) (K : PySem.W.Frag) (mg : Str → Option Value) (base : Heap) (fd : FuncData), HdOk fa fn tq exs K mg base → FunD K dl.name dl.qual dl.params dl.body dl.scope [] [] (He.ga K d.name) fd → FnOk l.prog w K mg base (L2.CX l.prog w) k (He.ga K d.name) fd [x] (spM (gxOf tq K mg) 1 mf))
    (pure_ : ∀ ns : List Int, ns.length ≤ n → (∀ z ∈ ns, Builtin.Int.intBits z ≤ 1048576) → ∃ out, mf [.val (.scr (ns.map D.int))] = .ok (.val (.bl true), out)) :
    PySem.W.WalkO q loose XP (He.hookX nd fa fn ts (tq.map (·.1)) fun K => (exs K).all id).says l.row.toRowW d [] (fun f vs => PySem.call f vs) := by
  refine LamX.walk_ofTsE (l := l) (n := n) (k := k) (x := x) (CX := fun w => L2.CX l.prog w) hn hn2 hdf hr ?_ (fun w H s e s' h => ?_)
  · intro w mg fa0 h Y G hmg
    obtain ⟨K, KX, c⟩ := Y
    have cd : He.SaysD fa fn K := c.t.d
    have gl : ∀ x, (He.Fa.glo x).ok K = true → mg x = some (.ref (He.ga K x)) := fun x hx => He.glo_ok KX G hx
    have e0 : fa0 = He.ga K d.name := by
      have := gl _ (cd.fact ig hig)
      rw [hmg] at this
      cases this; rfl
    subst e0
    obtain ⟨fd, Fu⟩ := cd.def_ il hil
    have e1 : dl.dvs K = [] := by unfold He.DefD.dvs; rw [h1]; rfl
    have e2 : dl.kws K = [] := by unfold He.DefD.kws; rw [h2]; rfl
    have e3 : He.fAd K dl.at_ = He.ga K d.name := by rw [hat]; rfl
    rw [e1, e2, e3] at Fu
    refine ⟨K, KX, fd, tq.map fun p => He.cT K p.1, spM (gxOf tq K mg) 1 mf, fun p hp => ?_, fun p hp => ?_, fun p hp => ?_, fun s u => Fu.bindsA hb s [u] rfl, fun H a ns hl hbits hT hS => law_sp (fun p hp => ?_) hS (pure_ ns hl hbits), fun base hK hN hTB => F w K mg base fd ⟨gl, fun x hx => He.free_ok KX G hx, fun f hf => cd.facts hf, fun d hd => cd.defs hd, c.more, fun p hp => hTB _ (List.mem_map.mpr ⟨p, hp, rfl⟩), fun x u e => PySem.W.mg_of KX G e⟩ Fu⟩
    · obtain ⟨r, hr', rfl⟩ := List.mem_map.mp hp
      exact c.empty _ (List.mem_map.mpr ⟨r, hr', rfl⟩)
    · obtain ⟨r, hr', rfl⟩ := List.mem_map.mp hp
      exact c.out _ (List.mem_map.mpr ⟨r, hr', rfl⟩)
    · obtain ⟨r, hr', rfl⟩ := List.mem_map.mp hp
      exact PySem.W.codeHd_of_K KX (c.hd _ (List.mem_map.mpr ⟨r, hr', rfl⟩))
    · obtain ⟨r, hr', rfl⟩ := List.mem_map.mp hp
      exact LamX.TabS.nil (hT _ (List.mem_map.mpr ⟨r, hr', rfl⟩))
  · obtain ⟨_, _, _, _, _, _, _, _, _, _, _, _, z⟩ := h
    exact z
end Mi

/-! ### M16: rules in short -/
namespace Mi
open PySem PySem.Spec PyProof.Rows L2
theorem unitsOk {k : Nat} {A : Around} (hr : Room k A) : A.units + 64 < cLine := by
  have := hr.un
  omega
section
variable {X : Cx} {F : Fm} {W : WX} {a b c : Expr} {ma mb mc : M S} {pos : Pos} {es : List Expr} {ms : M (List S)} {x : Str} {p : Pos}
theorem x_add (ft : Fits X F W) (ha : EM X F W a ma) (hb : EM X F W b mb) : EM X F W (.BinOp a .Add b pos) (eOp fAdd ma mb) := by
  obtain ⟨r, h1, h2⟩ := o_add (F := F) (X := X) ft.K
  exact em_op h1 h2 ha hb
theorem x_sub (ha : EM X F W a ma) (hb : EM X F W b mb) : EM X F W (.BinOp a .Sub b pos) (eOp fSub ma mb) := em_op op_sub o_sub ha hb
theorem x_mul (ha : EM X F W a ma) (hb : EM X F W b mb) : EM X F W (.BinOp a .Mult b pos) (eOp fMul ma mb) := em_op op_mulB o_mul ha hb
theorem x_div (ha : EM X F W a ma) (hb : EM X F W b mb) : EM X F W (.BinOp a .FloorDiv b pos) (eOp fDiv ma mb) := em_op op_fdivA o_div ha hb
theorem x_mod (ha : EM X F W a ma) (hb : EM X F W b mb) : EM X F W (.BinOp a .Mod b pos) (eOp fMod ma mb) := em_op op_modN o_mod ha hb
theorem x_pow (ha : EM X F W a ma) (hb : EM X F W b mb) : EM X F W (.BinOp a .Pow b pos) (eOp fPow ma mb) := em_op op_powW o_pow ha hb
theorem x_neg (ha : EM X F W a ma) : EM X F W (.UnaryOp .USub a pos) (eUn fNeg ma) := em_un un_neg o_neg ha
theorem x_eq (ft : Fits X F W) (hu : X.A.units + 64 < cLine) (ha : EM X F W a ma) (hb : EM X F W b mb) : EM X F W (.Compare a [.Eq] [b] pos) (eOp fEq ma mb) := em_cmp (op_eqD hu) (o_eq ft.K) ha hb (nomark b)
theorem x_ne (ft : Fits X F W) (hu : X.A.units + 64 < cLine) (ha : EM X F W a ma) (hb : EM X F W b mb) : EM X F W (.Compare a [.NotEq] [b] pos) (eOp fNe ma mb) := em_cmp (op_neD hu) (o_ne ft.K) ha hb (nomark b)
theorem x_lt (ha : EM X F W a ma) (hb : EM X F W b mb) : EM X F W (.Compare a [.Lt] [b] pos) (eOp fLt ma mb) := em_cmp op_lt o_cmp ha hb (nomark b)
theorem x_le (ha : EM X F W a ma) (hb : EM X F W b mb) : EM X F W (.Compare a [.LtE] [b] pos) (eOp fLe ma mb) := em_cmp op_le o_cmp ha hb (nomark b)
theorem x_gt (ha : EM X F W a ma) (hb : EM X F W b mb) : EM X F W (.Compare a [.Gt] [b] pos) (eOp fGt ma mb) := em_cmp op_gt o_cmp ha hb (nomark b)
theorem x_ge (ha : EM X F W a ma) (hb : EM X F W b mb) : EM X F W (.Compare a [.GtE] [b] pos) (eOp fGe ma mb) := em_cmp op_ge o_cmp ha hb (nomark b)
theorem x_is (ha : EM X F W a ma) (hb : EM X F W b mb) : EM X F W (.Compare a [.Is] [b] pos) (eOp fIsN ma mb) := em_cmp op_isN o_isN ha hb (nomark b)
theorem x_isnt (ha : EM X F W a ma) (hb : EM X F W b mb) : EM X F W (.Compare a [.IsNot] [b] pos) (eOp fNotN ma mb) := em_cmp op_notN o_notN ha hb (nomark b)
theorem t_eq (ft : Fits X F W) (hu : X.A.units + 64 < cLine) (ha : EM X F W a ma) (hb : EM X F W b mb) : BM X F W (.Compare a [.Eq] [b] pos) (bVal (eOp fEq ma mb)) := bm_cmp (op_eqD hu) (o_eq ft.K) ha hb (nomark b)
theorem t_ne (ft : Fits X F W) (hu : X.A.units + 64 < cLine) (ha : EM X F W a ma) (hb : EM X F W b mb) : BM X F W (.Compare a [.NotEq] [b] pos) (bVal (eOp fNe ma mb)) := bm_cmp (op_neD hu) (o_ne ft.K) ha hb (nomark b)
theorem t_lt (ha : EM X F W a ma) (hb : EM X F W b mb) : BM X F W (.Compare a [.Lt] [b] pos) (bVal (eOp fLt ma mb)) := bm_cmp op_lt o_cmp ha hb (nomark b)
theorem t_le (ha : EM X F W a ma) (hb : EM X F W b mb) : BM X F W (.Compare a [.LtE] [b] pos) (bVal (eOp fLe ma mb)) := bm_cmp op_le o_cmp ha hb (nomark b)
theorem t_gt (ha : EM X F W a ma) (hb : EM X F W b mb) : BM X F W (.Compare a [.Gt] [b] pos) (bVal (eOp fGt ma mb)) := bm_cmp op_gt o_cmp ha hb (nomark b)
theorem t_ge (ha : EM X F W a ma) (hb : EM X F W b mb) : BM X F W (.Compare a [.GtE] [b] pos) (bVal (eOp fGe ma mb)) := bm_cmp op_ge o_cmp ha hb (nomark b)
theorem t_is (ha : EM X F W a ma) (hb : EM X F W b mb) : BM X F W (.Compare a [.Is] [b] pos) (bVal (eOp fIsN ma mb)) := bm_cmp op_isN o_isN ha hb (nomark b)
theorem t_isnt (ha : EM X F W a ma) (hb : EM X F W b mb) : BM X F W (.Compare a [.IsNot] [b] pos) (bVal (eOp fNotN ma mb)) := bm_cmp op_notN o_notN ha hb (nomark b)
theorem x_ix (ft : Fits X F W) (ha : EM X F W a ma) (hb : EM X F W b mb) (hs : PlainIx b := by exact fun _ _ => rfl) : EM X F W (.Subscript a b pos) (eOp fIx ma mb) := em_ix ix_seq (o_ix ft.K) ha hb hs
theorem x_len (ft : Fits X F W) (hm : X.mg "len" = none) (ha : LM X F W [a] ms) (hg : Gl X "len" := by rfl) (he : starEach [a] X.env = (false, eval a X.env) :: starEach [] X.env := by rfl) : EM X F W (.Call (.Name "len" p) [a] [] pos) (eCB fLen ms) := em_callB call_len (c_len ft.K) hm ha boot_len hg (by decide) (by decide) he rfl
theorem x_abs (hm : X.mg "abs" = none) (ha : LM X F W [a] ms) (hg : Gl X "abs" := by rfl) (he : starEach [a] X.env = (false, eval a X.env) :: starEach [] X.env := by rfl) : EM X F W (.Call (.Name "abs" p) [a] [] pos) (eCB fAbs ms) := em_callB call_abs c_abs hm ha (by decide +kernel) hg (by decide) (by decide) he rfl
theorem x_int (hm : X.mg "int" = none) (ha : LM X F W [a] ms) (hg : Gl X "int" := by rfl) (he : starEach [a] X.env = (false, eval a X.env) :: starEach [] X.env := by rfl) : EM X F W (.Call (.Name "int" p) [a] [] pos) (eCB fInt ms) := em_callTy call_int1 c_int hm ha (by decide +kernel) hg (by decide) (by decide) he rfl
theorem x_isi {tb : IsT} (ft : Fits X F W) (ok : IsOk X.K F.G tb) (hm : X.mg "isinstance" = none) (ha : LM X F W [a, b] ms) (hg : Gl X "isinstance" := by rfl) (he : starEach [a, b] X.env = (false, eval a X.env) :: starEach [b] X.env := by rfl) (hpl : (backTo pos (starEach [b] X.env)).any (·.1) = false := by rfl) : EM X F W (.Call (.Name "isinstance" p) [a, b] [] pos) (eCB (fIsi tb) ms) := em_callB call_isE (c_isi ok ft.K) hm ha (by decide +kernel) hg (by decide) (by decide) he hpl
theorem x_list (ft : Fits X F W) (hm : X.mg "list" = none) (ha : LM X F W [a] ms) (hg : Gl X "list" := by rfl) (he : starEach [a] X.env = (false, eval a X.env) :: starEach [] X.env := by rfl) : EM X F W (.Call (.Name "list" p) [a] [] pos) (eCB fList ms) := em_callTy call_list_of (c_list ft.K) hm ha (by decide +kernel) hg (by decide) (by decide) he rfl
theorem x_tuple (ft : Fits X F W) (hm : X.mg "tuple" = none) (ha : LM X F W [a] ms) (hg : Gl X "tuple" := by rfl) (he : starEach [a] X.env = (false, eval a X.env) :: starEach [] X.env := by rfl) : EM X F W (.Call (.Name "tuple" p) [a] [] pos) (eCB fTuple ms) := em_callTy call_tuple_of (c_tuple ft.K) hm ha (by decide +kernel) hg (by decide) (by decide) he rfl
theorem x_all (ft : Fits X F W) (hm : X.mg "all" = none) (ha : LM X F W [a] ms) (hg : Gl X "all" := by rfl) (he : starEach [a] X.env = (false, eval a X.env) :: starEach [] X.env := by rfl) : EM X F W (.Call (.Name "all" p) [a] [] pos) (eCB fAll ms) := em_callB (cr_all ft.calm) (c_all ft.K) hm ha (by decide +kernel) hg (by decide) (by decide) he rfl
theorem x_any (ft : Fits X F W) (hm : X.mg "any" = none) (ha : LM X F W [a] ms) (hg : Gl X "any" := by rfl) (he : starEach [a] X.env = (false, eval a X.env) :: starEach [] X.env := by rfl) : EM X F W (.Call (.Name "any" p) [a] [] pos) (eCB fAny ms) := em_callB (cr_any ft.calm) (c_any ft.K) hm ha (by decide +kernel) hg (by decide) (by decide) he rfl
theorem x_sum (ft : Fits X F W) (hm : X.mg "sum" = none) (ha : LM X F W [a] ms) (hg : Gl X "sum" := by rfl) (he : starEach [a] X.env = (false, eval a X.env) :: starEach [] X.env := by rfl) : EM X F W (.Call (.Name "sum" p) [a] [] pos) (eCB fSum ms) := em_callB (cr_sum ft.calm) (c_sum ft.K) hm ha (by decide +kernel) hg (by decide) (by decide) he rfl
theorem x_bool (hm : X.mg "bool" = none) (ha : LM X F W [a] ms) (hg : Gl X "bool" := by rfl) (he : starEach [a] X.env = (false, eval a X.env) :: starEach [] X.env := by rfl) : EM X F W (.Call (.Name "bool" p) [a] [] pos) (eCB fBool ms) := em_callTy call_bool1 c_bool hm ha (by decide +kernel) hg (by decide) (by decide) he rfl
/-- a, b, c = x, y, z with plain local names -/
def sPar3 (i j l : Nat) (ms : M (List S)) : M Fl := M.bnd ms fun ss => match ss with
  | [s, t, u] => M.bnd (give s) fun s' => M.bnd (give t) fun t' => M.bnd (give u) fun u' => fun τ => .ok (.nx, ((τ.set i s').set j t').set l u')
  | _ => fun _ => .stuck
theorem sm_par3 (i j l : Nat) {x y z : Str} {px py pz pt : Pos} {kt k2 pt2} (hc : X.calm = true) (hN : X.N.Nodup) (ha : LM X F W [a, b, c] ms) (hi : X.N[i]? = some x := by rfl) (hj : X.N[j]? = some y := by rfl) (hl : X.N[l]? = some z := by rfl) (hij : i ≠ j := by decide) (hil : i ≠ l := by decide) (hjl : j ≠ l := by decide)
    (hx : X.env.scope.names.lookup x = some .local := by rfl) (hy : X.env.scope.names.lookup y = some .local := by rfl) (hz : X.env.scope.names.lookup z = some .local := by rfl)
    (hw : swappedStores [.Tuple [.Name x px, .Name y py, .Name z pz] kt pt] (.Tuple [a, b, c] k2 pt2) X.env = pure (some [x, y, z]) := by rfl)
    (hs : swapsWithSole [.Tuple [.Name x px, .Name y py, .Name z pz] kt pt] (.Tuple [a, b, c] k2 pt2) pos.line X.env = pure false := by rfl) :
    SM X F W (.Assign [.Tuple [.Name x px, .Name y py, .Name z pz] kt pt] (.Tuple [a, b, c] k2 pt2) pos) (sPar3 i j l ms) := PS.imp (ps_par3 hc hN hi hj hl hij hil hjl hx hy hz ha hw hs) fun D σ H ⟨Φ, τ, tm, qt, r, h⟩ => tl_go r h.bnd fun ss τ1 vs H1 Φ1 p ln r1 => by
  match ss, vs, ln with
  | [], _, _ => exact p.elim
  | [_], _, _ => exact p.elim
  | [_, _], _, _ => exact p.elim
  | _ :: _ :: _ :: _ :: _, _, _ => exact p.elim
  | [s, t, u], [], ln => cases ln
  | [s, t, u], [_], ln => cases ln
  | [s, t, u], [_, _], ln => cases ln
  | [s, t, u], _ :: _ :: _ :: _ :: _, ln => cases ln
  | [s, t, u], [v, w, y], _ =>
    refine ⟨v, w, y, rfl, ?_⟩
    obtain ⟨s', τ2, Φ2, n1, r2, k1⟩ := give_cases r1 (Wp.bnd p)
    have r2' : Rl F Φ2 H1 _ τ2 ((some w, t) :: (some v, s') :: (some y, u) :: tm) := r2.air (.perm (List.Perm.swap _ _ _))
    obtain ⟨t', τ3, Φ3, n2, r3, k2⟩ := give_cases r2' (Wp.bnd k1)
    have r3' : Rl F Φ3 H1 _ τ3 ((some y, u) :: (some w, t') :: (some v, s') :: tm) := r3.air (.perm (by
      show ((some w, t') :: (some v, s') :: (some y, u) :: tm).Perm ((some y, u) :: (some w, t') :: (some v, s') :: tm)
      exact (List.Perm.cons _ (List.Perm.swap _ _ _)).trans (List.Perm.swap _ _ _)))
    obtain ⟨u', τ4, Φ4, n3, r4, k3⟩ := give_cases r3' (Wp.bnd k2)
    have r5 : Rl F Φ4 H1 _ τ4 ((some v, s') :: (some w, t') :: (some y, u') :: tm) := r4.air (.perm (by
      show ((some y, u') :: (some w, t') :: (some v, s') :: tm).Perm ((some v, s') :: (some w, t') :: (some y, u') :: tm)
      exact ((List.Perm.swap _ _ _).trans (List.Perm.cons _ (List.Perm.swap _ _ _))).trans (List.Perm.swap _ _ _)))
    have r6 := r5.store n1 (fun p hp => by
      cases hp with
      | head => exact n2
      | tail _ h =>
        cases h with
        | head => exact n3
        | tail _ h => exact qt p h) i
    have r7 := r6.store n2 (fun p hp => by
      cases hp with
      | head => exact n3
      | tail _ h => exact qt p h) j
    exact k3 _ _ _ (r7.store n3 qt l)
end
end Mi

/-! ### M17: mirrors at slots, in steps -/
namespace Mi
open PySem PySem.Spec PyProof.Rows L2
section
variable {α β : Type} (τ : List S) (m n : M Fl) (ma mb : M S) (ms : M (List S)) (c t : M Bool) (i j k : Nat) (d : D) (s : S) (ss : List S) (f : D → D → Option S) (g1 : D → Option S) (g2 : List D → Option S) (g : MG) (gs : List D → M Unit) (mf : Fn)
theorem bnd_ap (m : M α) (f : α → M β) : M.bnd m f τ = match m τ with
  | .ok (a, τ') => f a τ'
  | .exc c fs τ' => .exc c fs τ'
  | .stuck => .stuck := rfl
theorem of_ap (o : Option α) : M.of o τ = match o with
  | some a => .ok (a, τ)
  | none => .stuck := by cases o <;> rfl
theorem seq_ap : sSeq m n τ = match m τ with
  | .ok (.nx, τ') => n τ'
  | .ok (.bk, τ') => .ok (.bk, τ')
  | .ok (.ct, τ') => .ok (.ct, τ')
  | .ok (.rt s, τ') => .ok (.rt s, τ')
  | .exc c fs τ' => .exc c fs τ'
  | .stuck => .stuck := by
  unfold sSeq M.bnd
  cases m τ with
  | stuck => rfl
  | exc _ _ _ => rfl
  | ok p =>
    obtain ⟨f, τ'⟩ := p
    cases f <;> rfl
theorem asg_ap : sAsg i ma τ = (M.bnd ma fun s => M.bnd (give s) fun s' => fun τ => .ok (.nx, τ.set i s')) τ := rfl
theorem ret_ap : sRet ma τ = (M.bnd ma fun s => M.bnd (give s) fun s' => M.ret (.rt s')) τ := rfl
theorem retN_ap : sRetN τ = .ok (.rt (.val .non), τ) := rfl
theorem sif_ap : sIf c m n τ = (M.bnd c fun b => if b = true then m else n) τ := rfl
theorem expr_ap : sExpr ma τ = (M.bnd ma fun _ => M.ret .nx) τ := rfl
theorem par_ap : sPar i j ms τ = (M.bnd ms fun ss => match ss with
  | [s, t] => M.bnd (give s) fun s' => M.bnd (give t) fun t' => fun τ => .ok (.nx, (τ.set i s').set j t')
  | _ => fun _ => .stuck) τ := rfl
theorem par3_ap : sPar3 i j k ms τ = (M.bnd ms fun ss => match ss with
  | [s, t, u] => M.bnd (give s) fun s' => M.bnd (give t) fun t' => M.bnd (give u) fun u' => fun τ => .ok (.nx, ((τ.set i s').set j t').set k u')
  | _ => fun _ => .stuck) τ := rfl
theorem asgT_ap : sAsgT g ma τ = (M.bnd ma fun s => M.bnd (give s) fun s' => M.bnd (g s') fun _ => M.ret .nx) τ := rfl
theorem nil_ap : sNil τ = .ok (.nx, τ) := rfl
theorem brk_ap : sBreak τ = .ok (.bk, τ) := rfl
theorem cnt_ap : sCont τ = .ok (.ct, τ) := rfl
theorem give_val : give (.val d) τ = .ok (.val d, τ) := rfl
theorem give_own (o : O) : give (.own o) τ = .ok (.own o, τ) := rfl
theorem give_ali : give (.ali i) τ = (M.bnd (take (.ali i)) fun d => M.ret (.val d)) τ := rfl
theorem take_val : take (.val d) τ = .ok (d, τ) := rfl
theorem take_own (o : O) : take (.own o) τ = .ok (o.frz, τ) := rfl
theorem take_ali : take (.ali i) τ = match τ[i]? with
    | some (.val d) => .ok (d, τ)
    | some (.own o) => .ok (o.frz, τ.set i (.val o.frz))
    | _ => .stuck := rfl
theorem ta_nil : takeAll [] τ = .ok ([], τ) := rfl
theorem ta_cons : takeAll (s :: ss) τ = (M.bnd (take s) fun d => M.bnd (takeAll ss) fun ds => M.ret (d :: ds)) τ := rfl
theorem pk_val : peek (.val d) τ = .ok (d, τ) := rfl
theorem pk_own (o : O) : peek (.own o) τ = .ok (o.frz, τ) := rfl
theorem pk_ali : peek (.ali i) τ = match τ[i]? with
    | some (.val d) => .ok (d, τ)
    | some (.own o) => .ok (o.frz, τ)
    | some (.lent _ o) => .ok (o.frz, τ)
    | _ => .stuck := by
  unfold peek
  show (match (match τ[i]? with
    | some (.val d) => some d
    | some (.own o) => some o.frz
    | some (.lent _ o) => some o.frz
    | _ => none : Option D) with
    | some d => R.ok (d, τ)
    | none => .stuck) = _
  generalize τ[i]? = o
  cases o with
  | none => rfl
  | some s => cases s <;> rfl
theorem pa_nil' : peekAll [] τ = .ok ([], τ) := rfl
theorem pa_cons' : peekAll (s :: ss) τ = (M.bnd (peek s) fun d => M.bnd (peekAll ss) fun ds => M.ret (d :: ds)) τ := rfl
theorem var_ap : eVar i τ = match τ[i]? with
  | some (.val d) => .ok (.val d, τ)
  | some (.own _) => .ok (.ali i, τ)
  | some (.lent _ _) => .ok (.ali i, τ)
  | _ => .stuck := rfl
theorem lit_ap : eLit d τ = .ok (.val d, τ) := rfl
theorem op_ap : eOp f ma mb τ = (M.bnd ma fun s => M.bnd mb fun t => M.bnd (peek s) fun d => M.bnd (peek t) fun e => M.of (f d e)) τ := rfl
theorem un_ap : eUn g1 ma τ = (M.bnd ma fun s => M.bnd (peek s) fun d => M.of (g1 d)) τ := rfl
theorem cb_ap : eCB g2 ms τ = (M.bnd ms fun ss => M.bnd (peekAll ss) fun ds => M.of (g2 ds)) τ := rfl
theorem lc_ap : lCons ma ms τ = (M.bnd ma fun s => M.bnd ms fun ss => M.ret (s :: ss)) τ := rfl
theorem ln_ap : lNil τ = .ok ([], τ) := rfl
theorem tup_ap : eTup ms τ = (M.bnd ms fun ss => M.bnd (takeAll ss) fun ds => M.bnd (M.of (fitL ds.length)) fun _ => M.ret (.val (.tup ds))) τ := rfl
theorem lst_ap : eLst ms τ = (M.bnd ms fun ss => M.bnd (takeAll ss) fun ds => M.bnd (M.of (fitL ds.length)) fun _ => M.ret (.own (.lst ds))) τ := rfl
theorem cv_ap : eCallV mf ms τ = (M.bnd ms fun ss => M.bnd (takeAll ss) fun ds => fun τ => match mf (ds.map S.val) with
  | .ok (r, _) => .ok (r, τ)
  | .exc c fs _ => .exc c fs τ
  | .stuck => .stuck) τ := rfl
theorem ck_ap (ix : List Nat) : eCallK ix k mf ms τ = (M.bnd ms fun ss => M.bnd (takeAll ss) fun ds => fun τ => if ds.length = k then (match mf ((Mi.pick .non ix ds).map S.val) with
  | .ok (r, _) => .ok (r, τ)
  | .exc c fs _ => .exc c fs τ
  | .stuck => .stuck) else .stuck) τ := rfl
theorem cl_ap : eCallL mf ms τ = (M.bnd ms fun ss => match ss with
  | .ali k :: rest => M.bnd (takeAll rest) fun ds => fun τ => match τ[k]? with
    | some (.own o) => lendTo mf k o .own ds τ
    | some (.lent j o) => lendTo mf k o (.lent j) ds τ
    | _ => .stuck
  | _ => fun _ => .stuck) τ := rfl
theorem and_ap : eAnd ma mb τ = (M.bnd ma fun s => M.bnd (M.of (asB s)) fun b => if b = true then mb else M.ret (.val (.bl false))) τ := rfl
theorem or_ap : eOr ma mb τ = (M.bnd ma fun s => M.bnd (M.of (asB s)) fun b => if b = true then M.ret (.val (.bl true)) else mb) τ := rfl
theorem not_ap : eNot ma τ = (M.bnd ma fun s => M.bnd (M.of (asB s)) fun b => M.ret (.val (.bl !b))) τ := rfl
theorem eif_ap : eIf c ma mb τ = (M.bnd c fun b => if b = true then ma else mb) τ := rfl
theorem bval_ap : bVal ma τ = (M.bnd ma fun s => M.of (asB s)) τ := rfl
theorem bnot_ap : bNot c τ = (M.bnd c fun b => M.ret (!b)) τ := rfl
theorem band_ap : bAnd c t τ = (M.bnd c fun b => if b = true then t else M.ret false) τ := rfl
theorem bor_ap : bOr c t τ = (M.bnd c fun b => if b = true then M.ret true else t) τ := rfl
theorem gnam_ap : gNam i s τ = .ok ((), τ.set i s) := rfl
theorem gtup_ap : gTupM k gs s τ = (M.bnd (peek s) fun d => M.bnd (M.of (unpk k d)) gs) τ := rfl
theorem gend_ap : gsEnd [] τ = .ok ((), τ) := rfl
theorem gcons_ap (ds : List D) : gsCons g gs (d :: ds) τ = (M.bnd (g (.val d)) fun _ => gs ds) τ := rfl
theorem rng_ap (f : List D → Option (List D)) : iRng f ms τ = (M.bnd ms fun ss => M.bnd (peekAll ss) fun ds => M.bnd (M.of (f ds)) fun its => M.ret (its, noPin)) τ := rfl
theorem for_ap (mi : M (List D × Pin)) : sFor mi g m τ = (M.bnd mi fun p => loopM p.2 g m p.1) τ := rfl
theorem loop_nil (p : Pin) : loopM p g m [] τ = .ok (.nx, τ) := rfl
open Classical in
theorem chk_no : chk noPin τ = .ok ((), τ) := by unfold chk noPin; simp
theorem loop_cons (ds : List D) : loopM noPin g m (d :: ds) τ = match g (.val d) τ with
  | .ok (_, τ1) => (match m τ1 with
    | .ok (.nx, τ2) => loopM noPin g m ds τ2
    | .ok (.ct, τ2) => loopM noPin g m ds τ2
    | .ok (.bk, τ2) => .ok (.nx, τ2)
    | .ok (.rt s, τ2) => .ok (.rt s, τ2)
    | .exc c fs τ' => .exc c fs τ'
    | .stuck => .stuck)
  | .exc c fs τ' => .exc c fs τ'
  | .stuck => .stuck := by
  show (M.bnd (g (.val d)) fun _ => M.bnd m fun f => match f with
    | .nx => M.bnd (chk noPin) fun _ => loopM noPin g m ds
    | .ct => M.bnd (chk noPin) fun _ => loopM noPin g m ds
    | .bk => M.ret .nx
    | .rt s => M.ret (.rt s)) τ = _
  unfold M.bnd
  cases g (.val d) τ with
  | stuck => rfl
  | exc _ _ _ => rfl
  | ok p =>
    obtain ⟨u, τ1⟩ := p
    simp only
    cases m τ1 with
    | stuck => rfl
    | exc _ _ _ => rfl
    | ok q =>
      obtain ⟨f, τ2⟩ := q
      cases f <;> simp only [chk_no, M.ret]
theorem setIx_ap (mv mo mi : M S) : sSetIx mv mo mi τ = (M.bnd mv fun s => M.bnd (take s) fun d => M.bnd mo fun so => M.bnd mi fun si => M.bnd (peek si) fun i => match so with
  | .ali k => M.bnd (onL k (setD i d)) fun _ => M.ret .nx
  | _ => fun _ => .stuck) τ := rfl
theorem run_ap (np nn : Nat) : runFn np nn m ss = if ¬ ss.length = np then .stuck else match m (ss ++ List.replicate (nn - ss.length) .non) with
  | .ok (f, τ) => (match f with
    | .nx => (match back ss τ with
      | some ss' => .ok (.val .non, ss')
      | none => .stuck)
    | .rt s => if retS s = true then (match back ss τ with
      | some ss' => .ok (s, ss')
      | none => .stuck) else .stuck
    | _ => .stuck)
  | .exc c fs τ => (match back ss τ with
    | some ss' => .exc c fs ss'
    | none => .stuck)
  | .stuck => .stuck := rfl
theorem comp_nil (own : List Nat) (p : Pin) (acc : List D) : compM own p g c ma [] acc τ = .ok (acc, τ) := rfl
theorem comp_cons (own : List Nat) (ds acc : List D) : compM own noPin g c ma (d :: ds) acc τ = match g (.val d) τ with
  | .ok (_, τ1) => (match c τ1 with
    | .ok (true, τ2) => (match (M.bnd ma fun s => M.bnd (take s) fun y => M.bnd (M.of (fitL (acc.length + 1))) fun _ => M.ret y) τ2 with
      | .ok (y, τ3) => compM own noPin g c ma ds (acc ++ [y]) (wipeT own τ3)
      | .exc c fs τ' => .exc c fs τ'
      | .stuck => .stuck)
    | .ok (false, τ2) => compM own noPin g c ma ds acc (wipeT own τ2)
    | .exc c fs τ' => .exc c fs τ'
    | .stuck => .stuck)
  | .exc c fs τ' => .exc c fs τ'
  | .stuck => .stuck := by
  rw [compM]
  unfold M.bnd
  cases g (.val d) τ with
  | stuck => rfl
  | exc _ _ _ => rfl
  | ok p =>
    obtain ⟨u, τ1⟩ := p
    simp only
    cases c τ1 with
    | stuck => rfl
    | exc _ _ _ => rfl
    | ok q =>
      obtain ⟨b, τ2⟩ := q
      cases b with
      | false => simp only [chk_no, wip, Bool.false_eq_true, if_false]
      | true =>
        simp only [if_true]
        cases ma τ2 with
        | stuck => rfl
        | exc _ _ _ => rfl
        | ok r =>
          obtain ⟨s, τ3⟩ := r
          simp only
          cases take s τ3 with
          | stuck => rfl
          | exc _ _ _ => rfl
          | ok v =>
            obtain ⟨y, τ4⟩ := v
            simp only [of_ap]
            cases fitL (acc.length + 1) with
            | none => rfl
            | some _ => simp only [chk_no, wip, M.ret]
theorem ecomp_ap (own : List Nat) (mi : M (List D × Pin)) {its : List D} {τ1 : List S} (h : mi τ = .ok ((its, noPin), τ1)) (hp : own.all (fun i => plainS (τ1.getD i .non)) = true) : eComp own mi g c ma τ = match compM own noPin g c ma its [] (wipeT own τ1) with
  | .ok (ds, τ2) => if realOk (wipeT own τ1) τ2 = true then .ok (.own (.lst ds), restT own τ1 τ2) else .stuck
  | _ => .stuck := by
  unfold eComp M.bnd
  simp only [h, hp, if_true, chk_no] <;> (cases compM own noPin g c ma its [] (wipeT own τ1) <;> rfl)
theorem byes_ap : bYes τ = .ok (true, τ) := rfl
/-- a comprehension that only reads -/
theorem compM_map {own : List Nat} {h : D → D} {τ0 : List S} : ∀ (xs acc : List D), (∀ x ∈ xs, ∃ τ1 τ2 s τ3, g (.val x) τ0 = .ok ((), τ1) ∧ ma τ1 = .ok (s, τ2) ∧ take s τ2 = .ok (h x, τ3) ∧ wipeT own τ3 = τ0) → acc.length + xs.length ≤ 1000 → compM own noPin g bYes ma xs acc τ0 = .ok (acc ++ xs.map h, τ0)
  | [], acc, _, _ => by rw [comp_nil, List.map_nil, List.append_nil]
  | x :: xs, acc, hx, hl => by
    obtain ⟨τ1, τ2, s, τ3, e1, e2, e3, e4⟩ := hx x List.mem_cons_self
    have hf : fitL (acc.length + 1) = some () := by
      unfold fitL
      rw [if_pos]
      rw [List.length_cons] at hl
      rw [sizeLine_eq]
      omega
    rw [comp_cons]
    simp only [e1, byes_ap, bnd_ap, e2, e3, of_ap, hf, M.ret, e4]
    rw [compM_map xs (acc ++ [h x]) (fun y hy => hx y (List.mem_cons_of_mem _ hy)) (by rw [List.length_append, List.length_cons, List.length_nil]; rw [List.length_cons] at hl; omega)]
    rw [List.map_cons, List.append_assoc]
    rfl
theorem raise_ap (x : Str) (fs : List Str) : sRaise x fs ms τ = (M.bnd ms fun ss => M.bnd (takeAll ss) fun ds => fun τ => if ds.length = fs.length then .exc x (fs.zip ds).reverse τ else .stuck) τ := rfl
theorem try_ap (mt : Str → Option Bool) : sTry i mt m n τ = match m τ with
  | .exc c fs τ1 => (match mt c with
    | some true => (match n (τ1.set i (.val (.exc c fs))) with
      | .ok (f, τ2) => if okFl f = true then .ok (f, τ2.set i .non) else .stuck
      | _ => .stuck)
    | some false => .exc c fs τ1
    | none => .stuck)
  | r => r := rfl
theorem seqi_own (o : O) (h : ma τ = .ok (.own o, τ)) : iSeq ma τ = match items o.frz with
  | some xs => .ok ((xs, noPin), τ)
  | none => .stuck := by
  simp only [iSeq, bnd_ap, h, take_own, of_ap]
  cases items o.frz <;> rfl
theorem seqi_val (h : ma τ = .ok (.val d, τ)) : iSeq ma τ = match items d with
  | some xs => .ok ((xs, noPin), τ)
  | none => .stuck := by
  simp only [iSeq, bnd_ap, h, take_val, of_ap]
  cases items d <;> rfl
theorem seqi_var (h : τ[i]? = some (.val d)) : iSeq (eVar i) τ = match items d with
  | some xs => .ok ((xs, noPin), τ)
  | none => .stuck := seqi_val (τ := τ) (ma := eVar i) (d := d) (by simp only [var_ap, h])
end
end Mi

/-! ### M18: chains of comparisons -/
namespace Mi
open PySem PySem.Spec PyProof.Rows L2
section
variable {X : Cx} {F : Fm} {W : WX} {Φ Φ' H H' : Hp} {σ : L2.St} {τ τ' : List S} {tm : Env1} {a b c : Expr} {ma mb mc : M S} {pos : Pos}
theorem t_chain {f g : D → D → Option S} {r r' : R2} (hf : OpS F f r) (hg : OpS F g r') {Q : VK} (h : TEm F W (eChain f g ma mb mc) σ H Q) : tChain r r' (TEm F W ma) (TEm F W mb) (TEm F W mc) σ H Q := by
  obtain ⟨Φ, τ, tm, rl, h⟩ := h
  refine te_go rl h.bnd fun s τ1 v H1 Φ1 p1 r1 => te_go r1 p1.bnd fun t τ2 w H2 Φ2 p2 r2 => ?_
  obtain ⟨d, e1, p3⟩ := Wp.peek p2.bnd
  obtain ⟨e, e2, p4⟩ := Wp.peek p3.bnd
  obtain ⟨u, e3, p5⟩ := Wp.of p4.bnd
  obtain ⟨k, e4, p6⟩ := Wp.of p5.bnd
  refine hf r2 (r2.peek (r2.one (some v, s) (List.mem_append_right _ (List.mem_cons_of_mem _ List.mem_cons_self))) e1) (r2.peek r2.hd e2) e3 fun x H' Φ' r3 => ?_
  refine ⟨k, one_bl r3.hd e4, ?_⟩
  cases k with
  | false =>
    rw [if_neg Bool.false_ne_true]
    rw [if_neg Bool.false_ne_true] at p6
    exact p6 _ H' Φ' (r3.tl.tl.tl.val (.bl false))
  | true =>
    rw [if_pos rfl]
    rw [if_pos rfl] at p6
    refine te_go r3.tl p6.bnd fun t2 τ3 w2 H3 Φ3 p7 r4 => ?_
    obtain ⟨d2, e5, p8⟩ := Wp.peek p7.bnd
    obtain ⟨d3, e6, p9⟩ := Wp.peek p8.bnd
    obtain ⟨u2, e7, k2⟩ := Wp.of p9
    exact hg r4.tl.tl.tl (r4.peek (r4.one (some w, t) (List.mem_append_right _ (List.mem_cons_of_mem _ List.mem_cons_self))) e5) (r4.peek r4.hd e6) e7 fun y H4 Φ4 r5 => k2 y H4 Φ4 r5
theorem em_chain {op op' : CmpOp} {f g : D → D → Option S} {r r' : R2} (ho : OpR X (compareOp op) r) (ho' : OpR X (compareOp op') r') (hf : OpS F f r) (hg : OpS F g r') (ha : EM X F W a ma) (hb : EM X F W b mb) (hc : EM X F W c mc) (hm : lastMarks [op, op'] [b, c] = false := by with_unfolding_all rfl) :
    EM X F W (.Compare a [op, op'] [b, c] pos) (eChain f g ma mb mc) := PE.imp (pe_chain ho ho' ha hb hc hm) fun _ _ _ h => t_chain hf hg h
theorem bm_chain {op op' : CmpOp} {f g : D → D → Option S} {r r' : R2} (ho : OpR X (compareOp op) r) (ho' : OpR X (compareOp op') r') (hf : OpS F f r) (hg : OpS F g r') (ha : EM X F W a ma) (hb : EM X F W b mb) (hc : EM X F W c mc) (hm : lastMarks [op, op'] [b, c] = false := by with_unfolding_all rfl) :
    BM X F W (.Compare a [op, op'] [b, c] pos) (bVal (eChain f g ma mb mc)) := PT.imp (pt_chain ho ho' ha hb hc hm) fun σ H Q ⟨Φ, τ, tm, rl, h⟩ => by
  refine t_chain hf hg ⟨Φ, τ, tm, rl, (Wp.bnd h).mono fun s τ' p v H' Φ' r' => ?_⟩
  obtain ⟨k, e, q⟩ := Wp.of p
  exact ⟨k, one_bl r'.hd e, q H' Φ' r'.tl⟩
/-! #### constants of the module -/
def intB (x : Str) (i : Int) (K : PySem.W.Frag) : Bool := match PySem.W.nsIn K mainGlobals x with
  | some (some (.int j _)) => decide (j = i)
  | _ => false
def strB (x z : Str) (K : PySem.W.Frag) : Bool := match PySem.W.nsIn K mainGlobals x with
  | some (some (.str y _)) => decide (y = z)
  | _ => false
variable {fa : List He.Fa} {fn : List He.DefD} {tq : List Tq} {exs : PySem.W.Frag → List Bool} {x : Str}
theorem em_gint {i : Int} (hd : HdOk fa fn tq exs X.K X.mg X.base) (h : intB x i X.K = true) (hg : Gl X x := by rfl) (hdb : (x == ("__debug__" : Str)) = false := by decide) : EM X F W (.Name x pos) (eLit (.int i)) := by
  have hm : ∃ t, X.mg x = some (.int i t) := by
    unfold intB at h
    split at h
    · rename_i j t e
      have := of_decide_eq_true h
      subst this
      exact ⟨t, hd.ns _ _ e⟩
    · cases h
  obtain ⟨t, hm⟩ := hm
  exact PE.imp (pe_glob (v := .int i) hg hm ⟨t, rfl⟩ hdb) fun σ H Q ⟨Φ, τ, tm, r, h⟩ => h _ _ _ (r.val (.int i))
theorem em_gstr {z : Str} (hd : HdOk fa fn tq exs X.K X.mg X.base) (h : strB x z X.K = true) (hg : Gl X x := by rfl) (hdb : (x == ("__debug__" : Str)) = false := by decide) : EM X F W (.Name x pos) (eLit (.str z)) := by
  have hm : ∃ t, X.mg x = some (.str z t) := by
    unfold strB at h
    split at h
    · rename_i j t e
      have := of_decide_eq_true h
      subst this
      exact ⟨t, hd.ns _ _ e⟩
    · cases h
  obtain ⟨t, hm⟩ := hm
  exact PE.imp (pe_glob (v := .str z) hg hm ⟨t, rfl⟩ hdb) fun σ H Q ⟨Φ, τ, tm, r, h⟩ => h _ _ _ (r.val (.str z))
/-! #### zip, enumerate -/
def pairD (x y : D) : D := .tup [x, y]
def zipD : List D → Option (List D)
  | [.lst xs, .lst ys] => some (List.zipWith pairD xs ys)
  | [.tup xs, .tup ys] => some (List.zipWith pairD xs ys)
  | _ => none
def enumD : List D → Option (List D)
  | [.lst xs] => some (xs.zipIdx.map fun p => .tup [.int (p.2 : Nat), p.1])
  | _ => none
def iTk (f : List D → Option (List D)) (ms : M (List S)) : M (List D × Pin) := M.bnd ms fun ss => M.bnd (takeAll ss) fun ds => M.bnd (M.of (f ds)) fun its => M.ret (its, noPin)
theorem zip_at {xs ys : List D} {i : Nat} {d : D} (h : (List.zipWith pairD xs ys)[i]? = some d) : ∃ x y, xs[i]? = some x ∧ ys[i]? = some y ∧ d = .tup [x, y] := by
  rw [List.getElem?_zipWith] at h
  split at h
  · rename_i x y e1 e2
    cases h
    exact ⟨x, y, e1, e2, rfl⟩
  · cases h
theorem zip_end {xs ys : List D} {i : Nat} (h : (List.zipWith pairD xs ys).length ≤ i) : xs.length ≤ i ∨ ys.length ≤ i := by
  rw [List.length_zipWith] at h
  omega
theorem yields_zipL (hK : X.K = F.G.K) {a b : Addr} {xs ys : List D} : Yields F (Itz X.K a b) (List.zipWith pairD xs ys) [(some (.ref a), .val (.lst xs)), (some (.ref b), .val (.lst ys))] noPin := by
  intro i Φ H σ τ tm r _
  obtain ⟨_, e1, q1⟩ := r.one (some (.ref a), .val (.lst xs)) (List.mem_append_right _ List.mem_cons_self)
  obtain ⟨_, e2, q2⟩ := r.one (some (.ref b), .val (.lst ys)) (List.mem_append_right _ (List.mem_cons_of_mem _ List.mem_cons_self))
  cases e1
  cases e2
  cases q1 with
  | @lst _ vs _ h1 t1 =>
    cases q2 with
    | @lst _ ws _ h2 t2 =>
      have s1 : SqL X.K H a vs := .inl (.inl (r.le _ _ h1))
      have s2 : SqL X.K H b ws := .inl (.inl (r.le _ _ h2))
      refine ⟨fun d hd => ?_, fun hl => ⟨vs, ws, s1, s2, ?_⟩⟩
      · obtain ⟨x, y, hx, hy, rfl⟩ := zip_at hd
        obtain ⟨v, hv, fv⟩ := FzL.at t1 hx
        obtain ⟨w, hw, fw⟩ := FzL.at t2 hy
        refine ⟨⟨vs, ws, v, w, s1, s2, hv, hw⟩, fun z H2 ⟨T, v', w', ez, hT, eH, y1, y2⟩ => ?_⟩
        have e3 := y1 _ s1
        have e4 := y2 _ s2
        rw [hv] at e3
        rw [hw] at e4
        cases e3
        cases e4
        subst ez eH
        exact ⟨_, r.tuple hT (.cons fv (.cons fw .nil))⟩
      · rw [t1.length, t2.length]
        exact zip_end hl
theorem yields_zipT (hK : X.K = F.G.K) {a b : Addr} {xs ys : List D} : Yields F (RZ.ItzT X.K a b) (List.zipWith pairD xs ys) [(some (.ref a), .val (.tup xs)), (some (.ref b), .val (.tup ys))] noPin := by
  intro i Φ H σ τ tm r _
  obtain ⟨_, e1, q1⟩ := r.one (some (.ref a), .val (.tup xs)) (List.mem_append_right _ List.mem_cons_self)
  obtain ⟨_, e2, q2⟩ := r.one (some (.ref b), .val (.tup ys)) (List.mem_append_right _ (List.mem_cons_of_mem _ List.mem_cons_self))
  cases e1
  cases e2
  cases q1 with
  | @tup _ vs _ h1 t1 =>
    cases q2 with
    | @tup _ ws _ h2 t2 =>
      have s1 : SqT X.K H a vs := by rw [hK]; exact SqT.le h1 r.le
      have s2 : SqT X.K H b ws := by rw [hK]; exact SqT.le h2 r.le
      refine ⟨fun d hd => ?_, fun hl => ⟨vs, ws, s1, s2, ?_⟩⟩
      · obtain ⟨x, y, hx, hy, rfl⟩ := zip_at hd
        obtain ⟨v, hv, fv⟩ := FzL.at t1 hx
        obtain ⟨w, hw, fw⟩ := FzL.at t2 hy
        refine ⟨⟨vs, ws, v, w, s1, s2, hv, hw⟩, fun z H2 ⟨T, v', w', ez, hT, eH, y1, y2⟩ => ?_⟩
        have e3 := y1 _ s1
        have e4 := y2 _ s2
        rw [hv] at e3
        rw [hw] at e4
        cases e3
        cases e4
        subst ez eH
        exact ⟨_, r.tuple hT (.cons fv (.cons fw .nil))⟩
      · rw [t1.length, t2.length]
        exact zip_end hl
theorem yields_enum (hK : X.K = F.G.K) {a : Addr} {xs : List D} : Yields F (Ite X.K a) (xs.zipIdx.map fun p => .tup [.int (p.2 : Nat), p.1]) [(some (.ref a), .val (.lst xs))] noPin := by
  intro i Φ H σ τ tm r _
  obtain ⟨_, e1, q1⟩ := r.one (some (.ref a), .val (.lst xs)) (List.mem_append_right _ List.mem_cons_self)
  cases e1
  cases q1 with
  | @lst _ vs _ h1 t1 =>
    have s1 : SqL X.K H a vs := .inl (.inl (r.le _ _ h1))
    refine ⟨fun d hd => ?_, fun hl => ⟨vs, s1, ?_⟩⟩
    · rw [List.getElem?_map, List.getElem?_zipIdx] at hd
      obtain ⟨p, hp, rfl⟩ := Option.map_eq_some_iff.mp hd
      obtain ⟨x, hx, rfl⟩ := Option.map_eq_some_iff.mp hp
      obtain ⟨v, hv, fv⟩ := FzL.at t1 hx
      refine ⟨⟨vs, v, s1, hv⟩, fun z H2 ⟨T, v', ez, hT, eH, y1⟩ => ?_⟩
      have e3 := y1 _ s1
      rw [hv] at e3
      cases e3
      subst ez eH
      have := r.tuple (vs := [.int (i : Nat), v]) (ds := [.int (i : Nat), x]) hT (.cons (.int _) (.cons fv .nil))
      rw [Nat.zero_add]
      exact ⟨_, this⟩
    · rw [List.length_map, List.length_zipIdx] at hl
      rw [t1.length]
      exact hl
theorem im_zip {e e2 : Expr} {ms : M (List S)} {p pos tpos : Pos} {elts : List Expr} {kk : Nat} (ft : Fits X F W) (hm : X.mg "zip" = none) (ha : LM X F W [e, e2] ms) (hg : Gl X "zip" := by rfl) (hs : starEach [e, e2] X.env = (false, eval e X.env) :: starEach [e2] X.env := by rfl) (hpl : (backTo pos (starEach [e2] X.env)).any (·.1) = false := by rfl) :
    IM X F W (.Tuple elts kk tpos) (.Call (.Name "zip" p) [e, e2] [] pos) (iTk zipD ms) := PI.imp (RZ.pi_zipA hg hm ha hs hpl) fun σ H Rr ⟨Φ, τ, tm, r, h⟩ => tl_go r (Wp.bnd h) fun ss τ1 vs H1 Φ1 p1 l r1 => by
  obtain ⟨ds, τ2, e3, p2⟩ := takeAll_cases (Wp.bnd p1)
  obtain ⟨Φ2, r2, q⟩ := Rl.takenAll l r1 e3
  obtain ⟨its, e4, k⟩ := Wp.of (Wp.bnd p2)
  unfold zipD at e4
  split at e4
  · rename_i xs ys
    cases e4
    cases q with
    | cons qa q =>
      cases q with
      | cons qb q =>
        cases q
        have r3 := (r2.val qb).val qa
        cases qa with
        | lst h1 t1 =>
          cases qb with
          | lst h2 t2 =>
            exact ⟨_, _, _, _, rfl, .inl ⟨.inl (.inl (r2.le _ _ h1)), .inl (.inl (r2.le _ _ h2)), k _ H1 Φ2 _ (fun z hz => by
              cases hz with
              | head => trivial
              | tail _ hz =>
                cases hz with
                | head => trivial
                | tail _ hz => cases hz) r3 trivial (yields_zipL ft.K)⟩⟩
  · rename_i xs ys
    cases e4
    cases q with
    | cons qa q =>
      cases q with
      | cons qb q =>
        cases q
        have r3 := (r2.val qb).val qa
        cases qa with
        | tup h1 t1 =>
          cases qb with
          | tup h2 t2 =>
            exact ⟨_, _, _, _, rfl, .inr ⟨by rw [ft.K]; exact SqT.le h1 r2.le, by rw [ft.K]; exact SqT.le h2 r2.le, k _ H1 Φ2 _ (fun z hz => by
              cases hz with
              | head => trivial
              | tail _ hz =>
                cases hz with
                | head => trivial
                | tail _ hz => cases hz) r3 trivial (yields_zipT ft.K)⟩⟩
  · cases e4
theorem im_enum {e : Expr} {ms : M (List S)} {p pos tpos : Pos} {elts : List Expr} {kk : Nat} (ft : Fits X F W) (hm : X.mg "enumerate" = none) (ha : LM X F W [e] ms) (hg : Gl X "enumerate" := by rfl) (hs : starEach [e] X.env = [(false, eval e X.env)] := by rfl) :
    IM X F W (.Tuple elts kk tpos) (.Call (.Name "enumerate" p) [e] [] pos) (iTk enumD ms) := PI.imp (pi_enum hg hm ha hs) fun σ H Rr ⟨Φ, τ, tm, r, h⟩ => tl_go r (Wp.bnd h) fun ss τ1 vs H1 Φ1 p1 l r1 => by
  obtain ⟨ds, τ2, e3, p2⟩ := takeAll_cases (Wp.bnd p1)
  obtain ⟨Φ2, r2, q⟩ := Rl.takenAll l r1 e3
  obtain ⟨its, e4, k⟩ := Wp.of (Wp.bnd p2)
  unfold enumD at e4
  split at e4
  · rename_i xs
    cases e4
    cases q with
    | cons qa q =>
      cases q
      have r3 := r2.val qa
      cases qa with
      | lst h1 t1 => exact ⟨_, _, rfl, .inl (.inl (r2.le _ _ h1)), k _ H1 Φ2 _ quiet_one r3 trivial (yields_enum ft.K)⟩
  · cases e4
end
end Mi

/-! ### M19: instances made, their fields stored, their methods called -/
namespace Mi
open PySem PySem.Spec PyProof.Rows L2
section
variable {X : Cx} {F : Fm} {W : WX} {Φ Φ' H H' : Hp} {σ : L2.St} {τ τ' : List S} {tm : Env1} {e o : Expr} {mv mo : M S} {pos tpos : Pos} {f x : Str}
theorem FzF.length {G : Gx} : ∀ {vs : List (Str × V)} {ds : List (Str × D)}, FzF G Φ vs ds → vs.length = ds.length
  | _, _, .nil => rfl
  | _, _, .cons _ t => by rw [List.length_cons, List.length_cons, FzF.length t]
theorem FzF.put {G : Gx} {v : V} {d : D} (f : Str) (h : Fz G Φ v d) : ∀ {vs : List (Str × V)} {ds : List (Str × D)}, FzF G Φ vs ds → FzF G Φ (putF f v vs) (putD f d ds)
  | _, _, .nil => .cons h .nil
  | _, _, .cons (f := g) q t => by
    unfold putF putD
    by_cases e : g = f
    · rw [if_pos e, if_pos e]; exact .cons h t
    · rw [if_neg e, if_neg e]; exact .cons q (FzF.put f h t)
/-- classes whose instances take the field f -/
structure SetOk (K : PySem.W.Frag) (G : Gx) (f : Str) (cs : List Str) : Prop where
  ok : ∀ c ∈ cs, ∀ C, G.cls c = some C → Cls K C ∧ NoAttr K C f
def onI (k : Nat) (f : Str) (cs : List Str) (d : D) : M Unit := fun τ => match τ[k]? with
  | some (.own (.ins c fs)) => if cs.contains c = true ∧ fs.length < 1000 then .ok ((), τ.set k (.own (.ins c (putD f d fs)))) else .stuck
  | some (.lent j (.ins c fs)) => if cs.contains c = true ∧ fs.length < 1000 then .ok ((), τ.set k (.lent j (.ins c (putD f d fs)))) else .stuck
  | _ => .stuck
def sSetF (f : Str) (cs : List Str) (mv mo : M S) : M Fl := M.bnd mv fun s => M.bnd (take s) fun d => M.bnd mo fun so => match so with
  | .ali k => M.bnd (onI k f cs d) fun _ => M.ret .nx
  | _ => fun _ => .stuck
theorem onI_cases {tm0 : Env1} {k : Nat} {cs : List Str} {d : D} {K : Unit → List S → Prop} (r : Rl F Φ H σ τ tm) (h : Wp F W tm0 (onI k f cs d τ) K) : ∃ a C dx vs c fs s s', σ[k]? = some (some (.ref a)) ∧ H a = some (.ins C dx vs) ∧ F.G.cls c = some C ∧ FzF F.G Φ vs fs ∧ cs.contains c = true ∧ fs.length < 1000 ∧ Kin s s' (.ins c fs) (.ins c (putD f d fs)) ∧ τ[k]? = some s ∧ K () (τ.set k s') := by
  unfold onI at h
  cases e : τ[k]? with
  | none => rw [e] at h; exact h.elim
  | some s =>
    rw [e] at h
    obtain ⟨v, e1, _, o⟩ := r.at e
    cases s with
    | own ob =>
      cases ob with
      | lst _ => exact h.elim
      | ins c fs =>
        simp only at h
        split at h
        · rename_i q
          obtain ⟨a, e2, ⟨C, dx, vs, hs, g, t⟩, _⟩ := o
          subst e2
          exact ⟨a, C, dx, vs, c, fs, _, _, e1, hs, g, t, q.1, q.2, .own _ _, rfl, h⟩
        · exact h.elim
    | lent j ob =>
      cases ob with
      | lst _ => exact h.elim
      | ins c fs =>
        simp only at h
        split at h
        · rename_i q
          obtain ⟨a, e2, ⟨C, dx, vs, hs, g, t⟩, _⟩ := o
          subst e2
          exact ⟨a, C, dx, vs, c, fs, _, _, e1, hs, g, t, q.1, q.2, .lent j _ _, rfl, h⟩
        · exact h.elim
    | raw => exact h.elim
    | non => exact h.elim
    | val _ => exact h.elim
    | ali _ => exact h.elim
theorem sm_setF {cs : List Str} (so : SetOk X.K F.G f cs) (hv : EM X F W e mv) (ho : EM X F W o mo) (hs : swapsWith e (some (.Attribute o f tpos)) pos.line X.env = pure false := by rfl) :
    SM X F W (.Assign [.Attribute o f tpos] e pos) (sSetF f cs mv mo) := PS.imp (ps_fld ho hv hs) fun D σ H ⟨Φ, τ, tm, qt, r, h⟩ => te_go r (Wp.bnd h) fun s τ1 v H1 Φ1 p1 r1 => by
  obtain ⟨d, τ2, e1, p2⟩ := take_cases (Wp.bnd p1)
  obtain ⟨Φ2, r2⟩ := Rl.taken r1 e1
  refine te_go r2 (Wp.bnd p2) fun s3 τ3 ov H3 Φ3 p3 r3 => ?_
  cases s3 with
  | ali k =>
    obtain ⟨x, s', e3, es, _⟩ := r3.hd
    cases e3
    obtain ⟨y, e4, fy⟩ := r3.tl.hd
    cases e4
    obtain ⟨a, C, dx, vs, c, fs, s, s2, es', hs', g, t, q1, q2, ks, eτ, k2⟩ := onI_cases r3 (Wp.bnd p3)
    rw [es] at es'
    cases es'
    obtain ⟨c1, c2⟩ := so.ok c (by simpa using q1) C g
    refine ⟨a, C, dx, vs, rfl, hs', c1, c2, by rw [t.length]; exact q2, ?_⟩
    have r5 := r3.tl.tl.wrote (u' := .ins C dx (putF f v vs)) eτ es ks hs' (fun _ z => by cases z) (fun _ z => by cases z) ⟨C, dx, _, upd_same, g, FzF.put f fy t⟩
    exact k2 _ _ _ r5
  | _ => exact p3.elim
/-! #### C(e, ..) -/
theorem run_mk {CX : CXT} {k : Nat} {fi C : Addr} {fd : FuncData} {ps : List Str} {sp : Sp} {E : XK} {pins : List (Addr × Obj)} {s : Shared} {Q : VK} {us : List Value} {vs : List V} (Mc : Mk X.K C fi) (Ok : FnOk X.prog X.w X.K X.mg X.base CX k fi fd ps sp) (room : Room (k + 1) X.A) (bd : Binds X.K fd ps [])
    (out : PassesAt CX X σ E) (In : Inv X pins σ H s) (rv : Vals vs us) (go : ∀ x dx, H x = none → H dx = none → dx ≠ x → sp (.ref x :: vs) (upd (upd H dx (.own x)) x (.ins C dx [])) (fun v H2 => v = .non ∧ Q (.ref x) H2) E) :
    wpAny (model X.prog X.w) X.A (call (.ref C) us) (EP X pins σ Q) X.xe s := by
  have g1 := go (s.heap.objs.size + 1) s.heap.objs.size (In.hok.fresh (Nat.le_succ _)) (In.hok.fresh (Nat.le_refl _)) (Nat.ne_of_lt (Nat.lt_succ_self _))
  have In2 := Inv.made (C := C) In
  have rv2 : Vals (V.ref (s.heap.objs.size + 1) :: vs) (Value.ref (s.heap.objs.size + 1) :: us) := .cons rfl rv
  have ln : (Value.ref (s.heap.objs.size + 1) :: us ++ []).length = ps.length := by
    rw [List.append_nil, ← rv2.length]
    exact Ok.len _ _ _ _ g1
  have bd2 := bd _ (Value.ref (s.heap.objs.size + 1) :: us) In2.kIn ln
  rw [List.append_nil] at bd2
  refine wpAny_call (make_map (f := fi) In.kIn Mc.makes Mc.init (beq_iff_eq.mp Mc.fn) (codeAny_mono (Ok.run _ X.stack _ _ ⟨Value.ref (s.heap.objs.size + 1) :: us, []⟩ (Value.ref (s.heap.objs.size + 1) :: us) _ _ E (room.make C us []) (In2.env0.make C us []) bd2 rv2 g1) fun r s' hq => ?_))
  cases r with
  | error e => exact out pins _ _ e s' In2 hq
  | ok fl =>
    cases fl with
    | ret u =>
      obtain ⟨v, H', In3, r3, ev, q3⟩ := In2.after hq
      subst ev
      exact ⟨r3, ⟨V.ref (s.heap.objs.size + 1), H', In3, rfl, q3⟩⟩
    | next => exact False.elim hq
    | brk => exact False.elim hq
    | cont => exact False.elim hq
structure MakOk (P : Program) (w : World) (K : PySem.W.Frag) (mg : Str → Option Value) (base : Heap) (G : Gx) (k : Nat) (c : Str) (n : Nat) (mf : Fn) : Prop where
  ex : ∃ C f fd ps, G.cls c = some C ∧ mg c = some (.ref C) ∧ Mk K C f ∧ FnOk P w K mg base (L2.CX P w) k f fd ps (spM G n mf) ∧ Binds K fd ps []
  ar : ∀ ss, mf ss ≠ .stuck → ss.length = n
def eMake (c : Str) (mf : Fn) (ms : M (List S)) : M S := M.bnd ms fun ss => M.bnd (takeAll ss) fun ds => fun τ => match mf (.lent 0 (.ins c []) :: ds.map S.val) with
  | .ok (.val .non, .lent _ o :: _) => .ok (.own o, τ)
  | .exc cc fs _ => .exc cc fs τ
  | _ => .stuck
variable {a : Expr} {es : List Expr} {ms : M (List S)} {p : Pos} {k n : Nat} {mf : Fn} {c : Str}
theorem t_make {C : Addr} {Q : VK} (g : F.G.cls c = some C) (hn : ∀ ss, mf ss ≠ .stuck → ss.length = n) (h : TEm F W (eMake c mf ms) σ H Q) : TLm F W ms σ H fun vs H1 => ∀ x dx, H1 x = none → H1 dx = none → dx ≠ x → spM F.G n mf (.ref x :: vs) (upd (upd H1 dx (.own x)) x (.ins C dx [])) (fun v H2 => v = .non ∧ Q (.ref x) H2) (WE W σ) := by
  obtain ⟨Φ, τ, tm, rl, h⟩ := h
  refine tl_go rl h.bnd fun ss τ1 vs H1 Φ1 p1 l r1 x dx hx hdx ne => ?_
  obtain ⟨ds, τ2, e, p2⟩ := takeAll_cases (Wp.bnd p1)
  obtain ⟨Φ2, r2, q⟩ := Rl.takenAll l r1 e
  have nx : upd H1 dx (.own x) x = none := by rw [upd_ne (Ne.symm ne)]; exact hx
  have r3 : Rl F Φ2 (upd (upd H1 dx (.own x)) x (.ins C dx [])) σ τ2 tm := (r2.beside hdx).beside nx
  have ow : Ow F.G Φ2 (upd (upd H1 dx (.own x)) x (.ins C dx [])) x (.ins c []) := ⟨C, dx, [], upd_same, g, .nil⟩
  have fx : Φ2 x = none := r2.fre hx
  have ent := r3.enter1 q ow fx
  have ne' : mf (.lent 0 (.ins c []) :: ds.map S.val) ≠ .stuck := fun z => by
    rw [z] at p2
    exact p2
  have there : ∀ {b : Addr} {u : HO}, H1 b = some u → upd (upd H1 dx (.own x)) x (.ins C dx []) b = some u := fun {b u} hb => by
    rw [upd_ne (ne_of_none hb hx), upd_ne (ne_of_none hb hdx)]
    exact hb
  have back : ∀ {Φ' H' : Hp} {out : List S} {tmc : Env1}, Rl ⟨F.G, Φ2, upd (upd H1 dx (.own x)) x (.ins C dx []), fun n => if n = 0 then some x else none, none⟩ Φ' H' ((V.ref x :: vs).map some) out tmc → Rl F Φ' H' σ τ2 tm := fun {Φ' H' out tmc} cc =>
    r2.grow cc.le0 cc.le (fun b o hb h2 => cc.pres b o (there hb) (fun j z => by
      by_cases hj : j = 0
      · have z' : some x = some b := by rw [← z]; exact (if_pos hj).symm
        cases z'
        rw [hx] at hb; cases hb
      · have z' : none = some b := by rw [← z]; exact (if_neg hj).symm
        cases z') h2) (fun b o hb => (cc.new b o hb).imp id fun z => none_upd b (none_upd b z)) cc.tabs fun b hb => none_upd b (none_upd b (cc.dom b hb))
  refine ⟨Φ2, _, .lent 0 (.ins c []) :: ds.map S.val, hn _ ne', ent, fun s hs => ?_, ?_⟩
  · rcases List.mem_cons.mp hs with e | hs
    · rw [e]; trivial
    · obtain ⟨d, _, e⟩ := List.mem_map.mp hs
      rw [← e]; trivial
  · cases hm : mf (.lent 0 (.ins c []) :: ds.map S.val) with
    | stuck => exact ne' hm
    | exc cc fs out =>
      rw [hm] at p2
      intro cls d H' Φ' c1 xr
      exact p2 cls d σ H' Φ' (back c1) xr
    | ok pr =>
      obtain ⟨r', out⟩ := pr
      rw [hm] at p2
      intro v H' Φ' c1
      cases r' with
      | val d =>
        cases d with
        | non =>
          cases out with
          | nil => exact p2.elim
          | cons s0 out =>
            cases s0 with
            | lent j o' =>
              obtain ⟨y, ev, fv⟩ := c1.hd
              cases ev
              cases fv
              refine ⟨rfl, ?_⟩
              have r4 := back c1
              have o1 : One ⟨F.G, Φ2, upd (upd H1 dx (.own x)) x (.ins C dx []), fun n => if n = 0 then some x else none, none⟩ Φ' H' ((V.ref x :: vs).map some) (.lent j o' :: out) (some (.ref x), .lent j o') := c1.one _ (List.mem_append_left _ (by
                show _ ∈ ((some (V.ref x)) :: vs.map some).zip (.lent j o' :: out)
                exact List.mem_cons_self))
              obtain ⟨b, eb, w2, fb, _⟩ := o1
              cases eb
              refine p2 (.ref x) H' Φ' (r4.put (p := (some (.ref x), .own o')) ⟨x, rfl, w2, fb, r2.dom x hx⟩ fun z hz b hb hq => ?_)
              cases hb
              exact r2.there z hz x hq hx
            | _ => exact p2.elim
        | _ => exact p2.elim
      | _ => exact p2.elim
theorem em_make (ft : Fits X F W) (hr : Room (k + 1) X.A) (mo : MakOk X.prog X.w X.K X.mg X.base F.G k c n mf) (ha : LM X F W (a :: es) ms) (hg : Gl X c := by rfl) (hdb : (c == ("__debug__" : Str)) = false := by decide) (he : starEach (a :: es) X.env = (false, eval a X.env) :: starEach es X.env := by rfl) (hpl : (backTo pos (starEach es X.env)).any (·.1) = false := by rfl) :
    EM X F W (.Call (.Name c p) (a :: es) [] pos) (eMake c mf ms) := by
  obtain ⟨C, f, fd, ps, g, gm, Mc, Ok, b⟩ := mo.ex
  refine ⟨fun pins s σ H Q I h => ?_⟩
  refine wpAny_Call_Name_kw (ld_glob I hg gm ?_ hdb)
  refine PySem.W.callWith_K (h₀ := X.base) I.ok.mod.kin Mc.kp (thn (ha.run pos pins s σ H _ I (t_make g mo.ar h)) fun us s1 ⟨vs, H1, I1, r, q⟩ => ⟨I1.kIn, ?_⟩) he hpl
  exact run_mk Mc Ok hr b (passAt ft.tk σ) I1 r q
/-! #### o.m(e, ..) -/
/-- a call all of whose arguments are plain -/
theorem sp_plain {vs : List V} {ds : List D} {Q : VK} (pr : Proper mf) (hn : ∀ ss, mf ss ≠ .stuck → ss.length = n) (r : Rl F Φ H σ τ tm) (q : FzL F.G Φ vs ds) (h : Wp F W tm (match mf (ds.map S.val) with
    | .ok (r, _) => .ok (r, τ)
    | .exc c fs _ => .exc c fs τ
    | .stuck => .stuck) fun s τ' => ∀ v H' Φ', Rl F Φ' H' σ τ' ((some v, s) :: tm) → Q v H') : spM F.G n mf vs H Q (WE W σ) := by
  have ne : mf (ds.map S.val) ≠ .stuck := fun z => by
    rw [z] at h
    exact h
  refine ⟨Φ, fun _ => none, ds.map S.val, hn _ ne, r.enter0 q, fun s hs => ?_, ?_⟩
  · obtain ⟨d, _, e⟩ := List.mem_map.mp hs
    rw [← e]; trivial
  · cases hm : mf (ds.map S.val) with
    | stuck => exact ne hm
    | ok p =>
      obtain ⟨r', out⟩ := p
      rw [hm] at h
      intro v H' Φ' c
      have r3 := r.after0 c fun _ => rfl
      exact h v H' Φ' (r3.handed (H := H) (P := fun _ => none) r.dom (fun p hp a ha => r.there p hp a ha) c.hd (pr _ _ _ hm))
    | exc c fs out =>
      rw [hm] at h
      intro cls d H' Φ' c1 x
      exact h cls d σ H' Φ' (r.after0 c1 fun _ => rfl) x
/-- a method of some classes: by class, its mirror -/
structure MetOk (P : Program) (w : World) (K : PySem.W.Frag) (mg : Str → Option Value) (base : Heap) (G : Gx) (k : Nat) (m : Str) (n : Nat) (tab : Str → Option Fn) : Prop where
  ex : ∀ c mf, tab c = some mf → ∀ C, G.cls c = some C → ∃ f fd ps, Cls K C ∧ Meth K C m f ∧ FnOk P w K mg base (L2.CX P w) k f fd ps (spM G n mf) ∧ Binds K fd ps []
  pr : ∀ c mf, tab c = some mf → Proper mf
  ar : ∀ c mf, tab c = some mf → ∀ ss, mf ss ≠ .stuck → ss.length = n
def norm (s : S) : M S := match s with
  | .own o => M.bnd (take (.own o)) fun d => M.ret (.val d)
  | s => M.ret s
/-- the instance that a method is looked up in -/
def insAt (τ : List S) : S → Option (Str × List (Str × D))
  | .val (.ins c fs) => some (c, fs)
  | .ali k => (match τ[k]? with
    | some (.val (.ins c fs)) => some (c, fs)
    | some (.own (.ins c fs)) => some (c, fs)
    | some (.lent _ (.ins c fs)) => some (c, fs)
    | _ => none)
  | _ => none
def onMeth (mf : Fn) (s : S) (ss : List S) : M S := match s with
  | .val d => M.bnd (takeAll ss) fun ds => fun τ => match mf ((d :: ds).map S.val) with
    | .ok (r, _) => .ok (r, τ)
    | .exc c fs _ => .exc c fs τ
    | .stuck => .stuck
  | .ali k => M.bnd (takeAll ss) fun ds => fun τ => match τ[k]? with
    | some (.own o) => lendTo mf k o .own ds τ
    | some (.lent j o) => lendTo mf k o (.lent j) ds τ
    | _ => .stuck
  | _ => fun _ => .stuck
def eMeth (m : Str) (tab : Str → Option Fn) (mo : M S) (ms : M (List S)) : M S := M.bnd mo fun s0 => M.bnd (norm s0) fun s => fun τ => match insAt τ s with
  | some (c, fs) => (match tab c, fs.lookup m with
    | some mf, none => (M.bnd ms fun ss => onMeth mf s ss) τ
    | _, _ => .stuck)
  | none => .stuck
theorem insAt_ok {v : V} {s : S} {c : Str} {fs : List (Str × D)} (r : Rl F Φ H σ τ tm) (h : One F Φ H σ τ (some v, s)) (e : insAt τ s = some (c, fs)) : ∃ a C dx vs, v = .ref a ∧ H a = some (.ins C dx vs) ∧ F.G.cls c = some C ∧ FzF F.G Φ vs fs := by
  cases s with
  | val d =>
    cases d with
    | ins c' fs' =>
      cases e
      obtain ⟨x, ex, q⟩ := h
      cases ex
      cases q with
      | ins q1 q2 q3 => exact ⟨_, _, _, _, rfl, r.le _ _ q1, q2, q3⟩
    | _ => cases e
  | ali k =>
    obtain ⟨x, s', e1, e2, e3, _⟩ := h
    cases e1
    simp only [insAt, e3] at e
    obtain ⟨w, e4, _, q⟩ := r.at e3
    rw [e2] at e4
    cases e4
    cases s' with
    | val d =>
      cases d with
      | ins c' fs' =>
        cases e
        obtain ⟨y, ey, q⟩ := q
        cases ey
        cases q with
        | ins q1 q2 q3 => exact ⟨_, _, _, _, rfl, r.le _ _ q1, q2, q3⟩
      | _ => cases e
    | own o =>
      cases o with
      | ins c' fs' =>
        cases e
        obtain ⟨a, ea, ⟨C, dx, vs, q1, q2, q3⟩, _⟩ := q
        cases ea
        exact ⟨a, C, dx, vs, rfl, q1, q2, q3⟩
      | lst _ => cases e
    | lent j o =>
      cases o with
      | ins c' fs' =>
        cases e
        obtain ⟨a, ea, ⟨C, dx, vs, q1, q2, q3⟩, _⟩ := q
        cases ea
        exact ⟨a, C, dx, vs, rfl, q1, q2, q3⟩
      | lst _ => cases e
    | _ => cases e
  | _ => cases e
theorem pe_methA {m : Str} {pl : Sem Bool} {apos : Pos} {ta : L2.TE} {t : L2.TA} (he : PE X o ta) (room : Room k X.A) (tk : Takes X W) (ha : PA X (a :: es) t)
    (hst : starEach (a :: es) X.env = (false, eval a X.env) :: starEach es X.env) (hpl : (backTo pos (starEach es X.env)).any (·.1) = false)
    (ht : eval (.Call (.Attribute o m apos) (a :: es) [] pos) X.env = (do
      let ov ← eval o X.env
      standAt apos.atName
      let (f, first) ← holding [ov] (getMethod ov m pl)
      callWith pos f first (backTo pos (starEach (a :: es) X.env)) (backToKw pos (keywordEach [] X.env)))) :
    PE X (.Call (.Attribute o m apos) (a :: es) [] pos) (fun σ H Q => ta σ H fun x H1 => ∃ b C dx fs f fd ps sp, x = .ref b ∧ H1 b = some (.ins C dx fs) ∧ fs.lookup m = none ∧ Cls X.K C ∧ Meth X.K C m f ∧ FnOk X.prog X.w X.K X.mg X.base (L2.CX X.prog X.w) k f fd ps sp ∧ Binds X.K fd ps [] ∧ t σ H1 fun vs H2 => sp (x :: vs) H2 Q (WE W σ)) := by
  refine ⟨fun pins s σ H Q In h => ?_⟩
  refine PySem.W.methodCall_KW (pl := pl) (thn (he.run pins s σ H _ In h) fun u s1 ⟨x, H1, In1, rx, b, C, dx, fs, f, fd, ps, sp, ex, eb, l, c, hm, Ok, bd, q⟩ => ?_) ht
  subst ex
  obtain rfl : u = Value.ref b := rx
  refine getmeth_ok In1 eb c hm l ?_
  refine PySem.W.callWith_K (first := [.ref b]) (h₀ := X.base) In.ok.mod.kin hm.kp (thn (ha.run pos pins s1 σ H1 _ In1 q) fun us s2 ⟨vs, H2, In2, r, q2⟩ => ⟨In2.kIn, ?_⟩) hst hpl
  exact run_fnSD (E := WE W) (us := .ref b :: us) (vs := .ref b :: vs) Ok room bd .nil (passAt tk σ) In2 (.cons rfl r) (by rw [List.append_nil]; exact q2)
theorem pe_methA0 {m : Str} {pl : Sem Bool} {apos : Pos} {ta : L2.TE} (he : PE X o ta) (room : Room k X.A) (tk : Takes X W)
    (ht : eval (.Call (.Attribute o m apos) [] [] pos) X.env = (do
      let ov ← eval o X.env
      standAt apos.atName
      let (f, first) ← holding [ov] (getMethod ov m pl)
      callWith pos f first (backTo pos (starEach [] X.env)) (backToKw pos (keywordEach [] X.env)))) :
    PE X (.Call (.Attribute o m apos) [] [] pos) (fun σ H Q => ta σ H fun x H1 => ∃ b C dx fs f fd ps sp, x = .ref b ∧ H1 b = some (.ins C dx fs) ∧ fs.lookup m = none ∧ Cls X.K C ∧ Meth X.K C m f ∧ FnOk X.prog X.w X.K X.mg X.base (L2.CX X.prog X.w) k f fd ps sp ∧ Binds X.K fd ps [] ∧ sp [x] H1 Q (WE W σ)) := by
  refine ⟨fun pins s σ H Q In h => ?_⟩
  refine PySem.W.methodCall_KW (pl := pl) (thn (he.run pins s σ H _ In h) fun u s1 ⟨x, H1, In1, rx, b, C, dx, fs, f, fd, ps, sp, ex, eb, l, c, hm, Ok, bd, q⟩ => ?_) ht
  subst ex
  obtain rfl : u = Value.ref b := rx
  refine getmeth_ok In1 eb c hm l ?_
  refine PySem.W.callWith_K0 (first := [.ref b]) In1.kIn hm.kp ?_
  exact run_fnSD (E := WE W) (us := [.ref b]) (vs := [.ref b]) Ok room bd .nil (passAt tk σ) In1 (.cons rfl .nil) (by rw [List.append_nil]; exact q)
theorem norm_cases {tm0 : Env1} {s : S} {v : V} {K : S → List S → Prop} (r : Rl F Φ H σ τ ((some v, s) :: tm)) (h : Wp F W tm0 (norm s τ) K) : ∃ s' τ' Φ', Rl F Φ' H σ τ' ((some v, s') :: tm) ∧ K s' τ' := by
  cases s with
  | own o =>
    obtain ⟨d, τ1, e, k⟩ := take_cases (Wp.bnd (show Wp F W tm0 (M.bnd (take (.own o)) (fun d => M.ret (S.val d)) τ) K from h))
    obtain ⟨Φ1, r1⟩ := Rl.taken r e
    exact ⟨_, _, Φ1, r1, k⟩
  | _ => exact ⟨_, _, Φ, r, h⟩
theorem on_meth {v : V} {s : S} {vs : List V} {ss : List S} {Q : VK} (pr : Proper mf) (hn : ∀ ss, mf ss ≠ .stuck → ss.length = n) (l : vs.length = ss.length) (r : Rl F Φ H σ τ ((vs.map some).zip ss ++ ((some v, s) :: tm))) (h : Wp F W tm (onMeth mf s ss τ) fun s τ' => ∀ v H' Φ', Rl F Φ' H' σ τ' ((some v, s) :: tm) → Q v H') : spM F.G n mf (v :: vs) H Q (WE W σ) := by
  cases s with
  | val d =>
    obtain ⟨ds, τ2, e, p2⟩ := takeAll_cases (Wp.bnd h)
    obtain ⟨Φ2, r2, q⟩ := Rl.takenAll l r e
    obtain ⟨x, ex, fx⟩ := r2.hd
    cases ex
    exact sp_plain (ds := d :: ds) pr hn r2.tl (.cons fx q) p2
  | ali k =>
    obtain ⟨ds, τ2, e, p2⟩ := takeAll_cases (Wp.bnd h)
    obtain ⟨Φ2, r2, q⟩ := Rl.takenAll l r e
    obtain ⟨x, s', e1, e2, e3, _⟩ := r2.hd
    cases e1
    have st : ∀ o mk, Wp F W tm (lendTo mf k o mk ds τ2) (fun s τ' => ∀ v H' Φ', Rl F Φ' H' σ τ' ((some v, s) :: tm) → Q v H') → ds.length + 1 = n := fun o mk z => by
      have := hn (.lent 0 o :: ds.map S.val) fun y => by
        unfold lendTo at z
        rw [y] at z
        exact z
      simpa using this
    obtain ⟨y, e4, em, o1⟩ := r2.at e3
    rw [e2] at e4
    cases e4
    cases s' with
    | own o =>
      simp only [e3] at p2
      obtain ⟨b, e5, _⟩ := o1
      cases e5
      exact lend_ok pr (st _ _ p2) r2.tl q e3 e2 (fun o' => .own o o') p2
    | lent j o =>
      simp only [e3] at p2
      obtain ⟨b, e5, _⟩ := o1
      cases e5
      exact lend_ok pr (st _ _ p2) r2.tl q e3 e2 (fun o' => .lent j o o') p2
    | raw => simp only [e3] at p2; exact p2.elim
    | non => simp only [e3] at p2; exact p2.elim
    | val d => simp only [e3] at p2; exact p2.elim
    | ali i => simp only [e3] at p2; exact p2.elim
  | _ => exact h.elim
theorem t_meth {m : Str} {tab : Str → Option Fn} {Q : VK} (mo' : MetOk X.prog X.w X.K X.mg X.base F.G k m n tab) (h : TEm F W (eMeth m tab mo ms) σ H Q) : TEm F W mo σ H fun x H1 => ∃ b C dx fs f fd ps sp, x = .ref b ∧ H1 b = some (.ins C dx fs) ∧ fs.lookup m = none ∧ Cls X.K C ∧ Meth X.K C m f ∧ FnOk X.prog X.w X.K X.mg X.base (L2.CX X.prog X.w) k f fd ps sp ∧ Binds X.K fd ps [] ∧ TLm F W ms σ H1 fun vs H2 => sp (x :: vs) H2 Q (WE W σ) := by
  obtain ⟨Φ, τ, tm, rl, h⟩ := h
  refine te_go rl h.bnd fun s0 τ1 v H1 Φ1 p1 r1 => ?_
  obtain ⟨s, τ2, Φ2, r2, p2⟩ := norm_cases r1 (Wp.bnd p1)
  cases e : insAt τ2 s with
  | none => simp only [e] at p2; exact p2.elim
  | some cf =>
    obtain ⟨c, fs⟩ := cf
    simp only [e] at p2
    obtain ⟨b, C, dx, vs, rfl, hb, g, ff⟩ := insAt_ok r2 r2.hd e
    cases e1 : tab c with
    | none => simp only [e1] at p2; exact p2.elim
    | some mf =>
      cases e2 : fs.lookup m with
      | some _ => simp only [e1, e2] at p2; exact p2.elim
      | none =>
        simp only [e1, e2] at p2
        obtain ⟨f, fd, ps, c1, c2, Ok, bd⟩ := mo'.ex c mf e1 C g
        exact ⟨b, C, dx, vs, f, fd, ps, _, rfl, hb, FzF.look0 ff e2, c1, c2, Ok, bd, tl_go r2 (Wp.bnd p2) fun ss τ3 vs' H3 Φ3 p3 l r3 => on_meth (mo'.pr c mf e1) (mo'.ar c mf e1) l r3 p3⟩
theorem te_mono {Q Q' : VK} (h : TEm F W mo σ H Q) (i : ∀ x H', Q x H' → Q' x H') : TEm F W mo σ H Q' := by
  obtain ⟨Φ, τ, tm, r, h⟩ := h
  exact ⟨Φ, τ, tm, r, h.mono fun s τ' k v H' Φ' r' => i _ _ (k v H' Φ' r')⟩
theorem em_meth {m : Str} {tab : Str → Option Fn} {pl : Sem Bool} {apos : Pos} (ft : Fits X F W) (hr : Room k X.A) (mk : MetOk X.prog X.w X.K X.mg X.base F.G k m n tab) (he : EM X F W o mo) (ha : LM X F W (a :: es) ms)
    (hst : starEach (a :: es) X.env = (false, eval a X.env) :: starEach es X.env := by rfl) (hpl : (backTo pos (starEach es X.env)).any (·.1) = false := by rfl)
    (ht : eval (.Call (.Attribute o m apos) (a :: es) [] pos) X.env = (do
      let ov ← eval o X.env
      standAt apos.atName
      let (f, first) ← holding [ov] (getMethod ov m pl)
      callWith pos f first (backTo pos (starEach (a :: es) X.env)) (backToKw pos (keywordEach [] X.env))) := by rfl) :
    EM X F W (.Call (.Attribute o m apos) (a :: es) [] pos) (eMeth m tab mo ms) := PE.imp (pe_methA he hr ft.tk ha hst hpl ht) fun σ H Q h => t_meth mk h
theorem em_meth0 {m : Str} {tab : Str → Option Fn} {pl : Sem Bool} {apos : Pos} (ft : Fits X F W) (hr : Room k X.A) (mk : MetOk X.prog X.w X.K X.mg X.base F.G k m n tab) (he : EM X F W o mo)
    (ht : eval (.Call (.Attribute o m apos) [] [] pos) X.env = (do
      let ov ← eval o X.env
      standAt apos.atName
      let (f, first) ← holding [ov] (getMethod ov m pl)
      callWith pos f first (backTo pos (starEach [] X.env)) (backToKw pos (keywordEach [] X.env))) := by rfl) :
    EM X F W (.Call (.Attribute o m apos) [] [] pos) (eMeth m tab mo lNil) := PE.imp (pe_methA0 he hr ft.tk ht) fun σ H Q h => by
  refine te_mono (t_meth mk h) fun x H1 ⟨b, C, dx, fs, f, fd, ps, sp, h1, h2, h3, h4, h5, h6, h7, h8⟩ => ⟨b, C, dx, fs, f, fd, ps, sp, h1, h2, h3, h4, h5, h6, h7, ?_⟩
  obtain ⟨Φ, τ, tm, r, q⟩ := h8
  exact q [] H1 Φ rfl r
end
end Mi

/-! ### M20: classes, by facts -/
namespace Mi
open PySem PySem.Spec PyProof.Rows L2
section
variable {fa : List He.Fa} {fn : List He.DefD} {tq : List Tq} {exs : PySem.W.Frag → List Bool} {P : Program} {w : World} {K : PySem.W.Frag} {mg : Str → Option Value} {base : Heap} {k n : Nat} {mf : Fn} {c f m : Str} {ps : List Str} {fd : FuncData}
/-- classes whose instances take the field f -/
def setB (f : Str) (cs : List Str) (K : PySem.W.Frag) : Bool := cs.all fun c => (He.Fa.glo c).ok K && ((He.Fa.cls c).ok K && (He.Fa.noat c f).ok K)
theorem setOk {cs : List Str} (hd : HdOk fa fn tq exs K mg base) (h : setB f cs K = true) : SetOk K (gxOf tq K mg) f cs := ⟨fun c hc C g => by
  obtain ⟨q1, q2⟩ := He.ba (List.all_eq_true.mp h c hc)
  obtain ⟨q2, q3⟩ := He.ba q2
  rw [hd.gat q1 g]
  exact ⟨He.cls_ok q2, He.noat_ok q3⟩⟩
/-- a class that is made by its own __init__ -/
def makB (c : Str) (K : PySem.W.Frag) : Bool := (He.Fa.glo c).ok K && (He.Fa.mkr c).ok K
theorem makOk (hd : HdOk fa fn tq exs K mg base) (h : makB c K = true) (ok : FnOk P w K mg base (L2.CX P w) k (He.fAd K (c, some "__init__")) fd ps (spM (gxOf tq K mg) n mf)) (b : Binds K fd ps []) (ar : ∀ ss, mf ss ≠ .stuck → ss.length = n) : MakOk P w K mg base (gxOf tq K mg) k c n mf := by
  obtain ⟨h1, h2⟩ := He.ba h
  have hm := hd.gl c h1
  exact ⟨⟨He.ga K c, He.ma K (He.ga K c) "__init__", fd, ps, glOf_iff.mpr hm, hm, He.mkr_ok h2, ok, b⟩, ar⟩
/-- a method of a class -/
def metB (c m : Str) (K : PySem.W.Frag) : Bool := (He.Fa.glo c).ok K && ((He.Fa.cls c).ok K && (He.Fa.meth c m).ok K)
/-- one class's method, as the rule for calls asks it -/
def Met1 (P : Program) (w : World) (K : PySem.W.Frag) (mg : Str → Option Value) (base : Heap) (G : Gx) (k : Nat) (m : Str) (n : Nat) (c : Str) (mf : Fn) : Prop :=
  (∀ C, G.cls c = some C → ∃ f fd ps, Cls K C ∧ Meth K C m f ∧ FnOk P w K mg base (L2.CX P w) k f fd ps (spM G n mf) ∧ Binds K fd ps []) ∧ Proper mf ∧ ∀ ss, mf ss ≠ .stuck → ss.length = n
theorem met1 (hd : HdOk fa fn tq exs K mg base) (h : metB c m K = true) (ok : FnOk P w K mg base (L2.CX P w) k (He.fAd K (c, some m)) fd ps (spM (gxOf tq K mg) n mf)) (b : Binds K fd ps []) (pr : Proper mf) (ar : ∀ ss, mf ss ≠ .stuck → ss.length = n) : Met1 P w K mg base (gxOf tq K mg) k m n c mf := by
  obtain ⟨h1, h2⟩ := He.ba h
  obtain ⟨h2, h3⟩ := He.ba h2
  refine ⟨fun C g => ?_, pr, ar⟩
  rw [hd.gat h1 g]
  exact ⟨_, fd, ps, He.cls_ok h2, He.meth_ok h3, ok, b⟩
theorem Met1.up {j : Nat} {G : Gx} (h : Met1 P w K mg base G j m n c mf) (le : j ≤ k) : Met1 P w K mg base G k m n c mf := ⟨fun C g => by
  obtain ⟨f, fd, ps, a, b, o, d⟩ := h.1 C g
  exact ⟨f, fd, ps, a, b, o.mono le, d⟩, h.2⟩
theorem metOk {G : Gx} {l : List (Str × Fn)} (h : ∀ e ∈ l, Met1 P w K mg base G k m n e.1 e.2) : MetOk P w K mg base G k m n fun x => l.lookup x :=
  ⟨fun c mf e C g => (h _ (PySem.mem_of_lookup e)).1 C g, fun c mf e => (h _ (PySem.mem_of_lookup e)).2.1, fun c mf e => (h _ (PySem.mem_of_lookup e)).2.2⟩
end
end Mi

/-! ### M21: methods of texts with one argument -/
namespace Mi
open PySem PySem.Spec PyProof.Rows L2
section
variable {X : Cx} {F : Fm} {W : WX} {Φ Φ' H H' : Hp} {σ : L2.St} {τ τ' : List S} {tm : Env1} {o e : Expr} {mo ma : M S} {apos pos : Pos}
def isStrD : D → Option Unit
  | .str _ => some ()
  | _ => none
def BmS (F : Fm) (f : D → D → Option S) (r : V → List V → Hp → VK → Prop) : Prop := ∀ {Φ H : Hp} {σ : L2.St} {τ : List S} {tm : Env1} {v w : V} {d e : D} {s : S} {Q : VK}, Rl F Φ H σ τ tm → Rdv F Φ H v d → Rdv F Φ H w e → f d e = some s →
  (∀ x H' Φ', Rl F Φ' H' σ τ ((some x, s) :: tm) → Q x H') → r v [w] H Q
def eSM (f : D → D → Option S) (mo ma : M S) : M S := M.bnd mo fun s => M.bnd (peek s) fun d => M.bnd (M.of (isStrD d)) fun _ => M.bnd ma fun t => M.bnd (peek t) fun e => M.of (f d e)
theorem isStr_ok {d : D} {u : Unit} (h : isStrD d = some u) : ∃ a, d = .str a := by
  cases d <;> first | exact ⟨_, rfl⟩ | cases h
theorem str_rdv {Φ2 H2 : Hp} {v : V} {a : Str} (h : Rdv F Φ H v (.str a)) : Rdv F Φ2 H2 v (.str a) := by
  rw [h.str]
  exact .inl (.str a)
theorem t_sm {f : D → D → Option S} {r : V → List V → Hp → VK → Prop} (hf : BmS F f r) {Q : VK} (h : TEm F W (eSM f mo ma) σ H Q) : tM1 r (TEm F W mo) (TEm F W ma) σ H Q := by
  obtain ⟨Φ, τ, tm, rl, h⟩ := h
  refine te_go rl h.bnd fun s τ1 v H1 Φ1 p1 r1 => ?_
  obtain ⟨d, e1, p2⟩ := Wp.peek p1.bnd
  obtain ⟨u, e2, p3⟩ := Wp.of p2.bnd
  obtain ⟨a, rfl⟩ := isStr_ok e2
  have rd := r1.peek r1.hd e1
  refine ⟨⟨a, rd.str⟩, te_go r1 p3.bnd fun t τ2 w H2 Φ2 p4 r2 => ?_⟩
  obtain ⟨d2, e3, p5⟩ := Wp.peek p4.bnd
  obtain ⟨s2, e4, k⟩ := Wp.of p5
  exact hf r2.tl.tl (str_rdv rd) (r2.peek r2.hd e3) e4 fun x H' Φ' r' => k x H' Φ' r'
theorem em_sm {id : String} {name : Str} {f : D → D → Option S} {r : V → List V → Hp → VK → Prop} (slot : Slot "str" name id) (ty : typeOf (.builtin id) = pure (.type "method_descriptor")) (rule : MtR X id r) (hf : BmS F f r) (ho : EM X F W o mo) (ha : EM X F W e ma)
    (hs : starEach [e] X.env = [(false, eval e X.env)] := by rfl) (hbase : attributeBase o name X.env (eval o X.env) = eval o X.env := by rfl) (hline : (apos.endLine == pos.line) = true := by rfl) :
    EM X F W (.Call (.Attribute o name apos) [e] [] pos) (eSM f mo ma) := PE.imp (pe_m1 slot ty rule ho ha hs hbase hline) fun _ _ _ h => t_sm hf h
def fStarts : D → D → Option S
  | .str a, .str b => some (.val (.bl (Txt.startswith a b)))
  | _, _ => none
def fSplit : D → D → Option S
  | .str a, .str b => if (b.length == 0) = false ∧ a.length + 2 ≤ sizeLine then some (.own (.lst ((Txt.split a b).map .str))) else none
  | _, _ => none
theorem fz_strs {G : Gx} : ∀ ys : List Str, FzL G Φ (ys.map V.str) (ys.map D.str)
  | [] => .nil
  | y :: ys => .cons (.str y) (fz_strs ys)
theorem x_starts (ho : EM X F W o mo) (ha : EM X F W e ma) (hs : starEach [e] X.env = [(false, eval e X.env)] := by rfl) (hbase : attributeBase o "startswith" X.env (eval o X.env) = eval o X.env := by rfl) (hline : (apos.endLine == pos.line) = true := by rfl) :
    EM X F W (.Call (.Attribute o "startswith" apos) [e] [] pos) (eSM fStarts mo ma) := em_sm PySem.F.slot_str_startswith PySem.F.type_str_startswith mt_startswith (fun {Φ H σ τ tm v w d e s Q} rl h1 h2 hf k => by
  unfold fStarts at hf
  split at hf
  · cases hf
    exact ⟨_, _, h1.str, by rw [h2.str], k _ _ _ (rl.val (.bl _))⟩
  · cases hf) ho ha hs hbase hline
theorem x_split (ho : EM X F W o mo) (ha : EM X F W e ma) (hs : starEach [e] X.env = [(false, eval e X.env)] := by rfl) (hbase : attributeBase o "split" X.env (eval o X.env) = eval o X.env := by rfl) (hline : (apos.endLine == pos.line) = true := by rfl) :
    EM X F W (.Call (.Attribute o "split" apos) [e] [] pos) (eSM fSplit mo ma) := em_sm PySem.F.slot_str_split PySem.F.type_str_split mt_split (fun {Φ H σ τ tm v w d e s Q} rl h1 h2 hf k => by
  unfold fSplit at hf
  split at hf
  · split at hf
    · rename_i hz
      cases hf
      exact ⟨_, _, h1.str, by rw [h2.str], hz.1, hz.2, fun p hp => k _ _ _ (rl.mine hp (fz_strs _))⟩
    · cases hf
  · cases hf) ho ha hs hbase hline
end
end Mi

/-! ### M22: x in a text, x in a list of data; texts walked; int of a text, text of an int -/
namespace Mi
open PySem PySem.Spec PyProof.Rows L2
section
variable {X : Cx} {F : Fm} {W : WX} {Φ Φ' H H' : Hp} {σ : L2.St} {τ τ' : List S} {tm : Env1} {a b : Expr} {ma mb : M S} {pos p : Pos} {ms : M (List S)} {tg iter : Expr}
theorem unitsOk5 {k : Nat} {A : Around} (hr : Room k A) : A.units + 65 < cLine := by
  have := hr.un
  omega
def inD (d e : D) : Option Bool := match e with
  | .str j => (match d with
    | .str i => some (!(Builtin.Str.occurrences j i 0 j.length 1).isEmpty)
    | _ => none)
  | .lst ys => (match d.py, D.pys ys with
    | some p, some qs => if SeqAt.shaped p = true ∧ SeqAt.shaped (.list qs) = true then some (qs.any fun z => PyData.eqv z p) else none
    | _, _ => none)
  | _ => none
def fIn (d e : D) : Option S := (inD d e).map fun b => .val (.bl b)
def fNin (d e : D) : Option S := (inD d e).map fun b => .val (.bl !b)
theorem inD_ok {v w : V} {d e : D} {k : Bool} (l : Le Φ H) (hd : Rdv F Φ H v d) (he : Rdv F Φ H w e) (h : inD d e = some k) : (∃ i j, v = .str i ∧ w = .str j ∧ k = !(Builtin.Str.occurrences j i 0 j.length 1).isEmpty) ∨ ∃ p qs, Dp F.G.K H v p ∧ Dp F.G.K H w (.list qs) ∧ SeqAt.shaped p = true ∧ SeqAt.shaped (.list qs) = true ∧ k = qs.any fun z => PyData.eqv z p := by
  unfold inD at h
  split at h
  · split at h
    · cases h
      exact .inl ⟨_, _, hd.str, he.str, rfl⟩
    · cases h
  · rename_i ys
    split at h
    · rename_i p qs e1 e2
      split at h
      · rename_i hz
        cases h
        refine .inr ⟨p, qs, rd_dp hd l e1, rd_dp he l ?_, hz.1, hz.2, rfl⟩
        simp only [D.py, e2, Option.map_some]
      · cases h
    · cases h
  · cases h
theorem x_in (ft : Fits X F W) (hu : X.A.units + 65 < cLine) (ha : EM X F W a ma) (hb : EM X F W b mb) (hm : behindInMarks .In b = false := by with_unfolding_all rfl) : EM X F W (.Compare a [.In] [b] pos) (eOp fIn ma mb) := em_cmp (op_in_str.or (op_inD hu)) (fun {Φ H σ τ tm v w d e s Q} rl hd he hf k => by
  obtain ⟨c, e1, rfl⟩ := Option.map_eq_some_iff.mp hf
  rcases inD_ok rl.le hd he e1 with ⟨i, j, h1, h2, rfl⟩ | ⟨p, qs, h1, h2, h3, h4, rfl⟩
  · exact .inl ⟨i, j, h1, h2, k _ _ _ (rl.val (.bl _))⟩
  · exact .inr ⟨p, qs, by rw [ft.K]; exact h1, by rw [ft.K]; exact h2, h3, h4, k _ _ _ (rl.val (.bl _))⟩) ha hb hm
theorem t_in (ft : Fits X F W) (hu : X.A.units + 65 < cLine) (ha : EM X F W a ma) (hb : EM X F W b mb) (hm : behindInMarks .In b = false := by with_unfolding_all rfl) : BM X F W (.Compare a [.In] [b] pos) (bVal (eOp fIn ma mb)) := bm_cmp (op_in_str.or (op_inD hu)) (fun {Φ H σ τ tm v w d e s Q} rl hd he hf k => by
  obtain ⟨c, e1, rfl⟩ := Option.map_eq_some_iff.mp hf
  rcases inD_ok rl.le hd he e1 with ⟨i, j, h1, h2, rfl⟩ | ⟨p, qs, h1, h2, h3, h4, rfl⟩
  · exact .inl ⟨i, j, h1, h2, k _ _ _ (rl.val (.bl _))⟩
  · exact .inr ⟨p, qs, by rw [ft.K]; exact h1, by rw [ft.K]; exact h2, h3, h4, k _ _ _ (rl.val (.bl _))⟩) ha hb hm
theorem x_nin (ft : Fits X F W) (hu : X.A.units + 65 < cLine) (ha : EM X F W a ma) (hb : EM X F W b mb) (hm : behindInMarks .NotIn b = false := by with_unfolding_all rfl) : EM X F W (.Compare a [.NotIn] [b] pos) (eOp fNin ma mb) := em_cmp (op_notin_str.or (op_notInD hu)) (fun {Φ H σ τ tm v w d e s Q} rl hd he hf k => by
  obtain ⟨c, e1, rfl⟩ := Option.map_eq_some_iff.mp hf
  rcases inD_ok rl.le hd he e1 with ⟨i, j, h1, h2, rfl⟩ | ⟨p, qs, h1, h2, h3, h4, rfl⟩
  · exact .inl ⟨i, j, h1, h2, k _ _ _ (rl.val (.bl _))⟩
  · exact .inr ⟨p, qs, by rw [ft.K]; exact h1, by rw [ft.K]; exact h2, h3, h4, k _ _ _ (rl.val (.bl _))⟩) ha hb hm
/-! #### a text walked -/
def signsD (x : Str) : List D := x.cps.toList.map fun c => .str ⟨#[c]⟩
def strD : D → Option (List D)
  | .str x => some (signsD x)
  | _ => none
def iTxt (ma : M S) : M (List D × Pin) := M.bnd ma fun s => M.bnd (peek s) fun d => M.bnd (M.of (strD d)) fun its => M.ret (its, noPin)
theorem yields_str {x : Str} : Yields F (Its x) (signsD x) [] noPin := by
  intro i Φ H σ τ tm r _
  refine ⟨fun d hd => ?_, fun hl => ?_⟩
  · unfold signsD at hd
    rw [List.getElem?_map] at hd
    obtain ⟨c, hc, rfl⟩ := Option.map_eq_some_iff.mp hd
    have hc' : x.cps[i]? = some c := by rw [← Array.getElem?_toList]; exact hc
    refine ⟨?_, fun z H2 ⟨e1, c', e2, e3⟩ => ?_⟩
    · obtain ⟨hi, _⟩ := Array.getElem?_eq_some_iff.mp hc'
      exact hi
    · rw [hc'] at e2
      cases e2
      subst e1 e3
      exact ⟨Φ, r.val (.str _)⟩
  · unfold signsD at hl
    rw [List.length_map, Array.length_toList] at hl
    exact hl
theorem im_txt (ha : EM X F W iter ma) : IM X F W tg iter (iTxt ma) := PI.imp (pi_str ha) fun σ H Rr ⟨Φ, τ, tm, r, h⟩ => te_go r (Wp.bnd h) fun s τ1 v H1 Φ1 p1 r1 => by
  obtain ⟨d, e1, p2⟩ := Wp.peek (Wp.bnd p1)
  obtain ⟨its, e2, k⟩ := Wp.of (Wp.bnd p2)
  cases d with
  | str x =>
    cases e2
    exact ⟨x, (r1.peek r1.hd e1).str, k _ H1 Φ1 [] quiet_nil r1.tl trivial yields_str⟩
  | _ => cases e2
/-! #### int(text), str(int) -/
def fIntX : List D → Option S
  | [.int i] => sInt i
  | [.bl k] => sInt (if k then 1 else 0)
  | [.str a] => if a.length ≤ 640 then (PySem.intText? a).map fun n => .val (.int n) else none
  | _ => none
def fStr : List D → Option S
  | [.int i] => if i.natAbs.log2 < 1920 then some (.val (.str (toString i))) else none
  | _ => none
theorem x_str (hm : X.mg "str" = none) (ha : LM X F W [a] ms) (hg : Gl X "str" := by rfl) (he : starEach [a] X.env = (false, eval a X.env) :: starEach [] X.env := by rfl) : EM X F W (.Call (.Name "str" p) [a] [] pos) (eCB fStr ms) := em_callTy call_str_int (fun {Φ H σ τ tm vs ds s Q} rl hd hf k => by
  unfold fStr at hf
  split at hf
  · split at hf
    · rename_i hz
      cases hf
      obtain ⟨v, rfl, h1⟩ := rd1 hd
      exact ⟨_, by rw [h1.int], hz, k _ _ _ (rl.val (.str _))⟩
    · cases hf
  · cases hf) hm ha (by decide +kernel) hg (by decide) (by decide) he rfl
/-! #### a text or a sequence -/
def isTxt (ma : M S) (τ : List S) : Bool := match ma τ with
  | .ok (s, τ1) => (match peekS τ1 s with
    | some (.str _) => true
    | _ => false)
  | _ => false
def iAny (ma : M S) : M (List D × Pin) := fun τ => if isTxt ma τ = true then iTxt ma τ else iSeq ma τ
theorem im_any (ft : Fits X F W) (ha : EM X F W iter ma) : IM X F W tg iter (iAny ma) := by
  have both : PI X tg iter (fun σ H Rr => TIm F W (iTxt ma) σ H Rr ∨ TIm F W (iSeq ma) σ H Rr) := ⟨fun pins s σ H Rr I h => h.elim ((im_txt ha).run pins s σ H Rr I) ((im_seq ft ha).run pins s σ H Rr I)⟩
  refine PI.imp both fun σ H Rr ⟨Φ, τ, tm, r, h⟩ => ?_
  unfold iAny at h
  split at h
  · exact .inl ⟨Φ, τ, tm, r, h⟩
  · exact .inr ⟨Φ, τ, tm, r, h⟩
end
end Mi

/-! ### M23: max, min of a list of ints -/
namespace Mi
open PySem PySem.Spec PyProof.Rows L2
section
variable {X : Cx} {F : Fm} {W : WX} {a : Expr} {ms : M (List S)} {pos p : Pos}
def fMax : List D → Option S
  | [.lst xs] => (match intsD xs with
    | some (n :: ns) => some (.val (.int (ns.foldl max n)))
    | _ => none)
  | _ => none
def fMin : List D → Option S
  | [.lst xs] => (match intsD xs with
    | some (n :: ns) => some (.val (.int (ns.foldl min n)))
    | _ => none)
  | _ => none
theorem foldl_max : ∀ (ns : List Int) (n : Int), ns.foldl max n ∈ n :: ns ∧ ∀ y ∈ n :: ns, y ≤ ns.foldl max n
  | [], n => ⟨List.mem_cons_self, fun y hy => by
    simp only [List.mem_cons, List.not_mem_nil, or_false] at hy
    rw [hy]; exact Int.le_refl _⟩
  | m :: ns, n => by
    obtain ⟨h1, h2⟩ := foldl_max ns (max n m)
    rw [List.foldl_cons]
    constructor
    · rcases List.mem_cons.mp h1 with e | e
      · rw [e]
        by_cases q : n ≤ m
        · rw [Int.max_eq_right q]; exact List.mem_cons_of_mem _ List.mem_cons_self
        · rw [Int.max_eq_left (by omega)]; exact List.mem_cons_self
      · exact List.mem_cons_of_mem _ (List.mem_cons_of_mem _ e)
    · intro y hy
      have h3 := h2 (max n m) List.mem_cons_self
      rcases List.mem_cons.mp hy with e | hy
      · subst e; omega
      · rcases List.mem_cons.mp hy with e | hy
        · subst e; omega
        · exact h2 y (List.mem_cons_of_mem _ hy)
theorem foldl_min : ∀ (ns : List Int) (n : Int), ns.foldl min n ∈ n :: ns ∧ ∀ y ∈ n :: ns, ns.foldl min n ≤ y
  | [], n => ⟨List.mem_cons_self, fun y hy => by
    simp only [List.mem_cons, List.not_mem_nil, or_false] at hy
    rw [hy]; exact Int.le_refl _⟩
  | m :: ns, n => by
    obtain ⟨h1, h2⟩ := foldl_min ns (min n m)
    rw [List.foldl_cons]
    constructor
    · rcases List.mem_cons.mp h1 with e | e
      · rw [e]
        by_cases q : n ≤ m
        · rw [Int.min_eq_left q]; exact List.mem_cons_self
        · rw [Int.min_eq_right (by omega)]; exact List.mem_cons_of_mem _ List.mem_cons_self
      · exact List.mem_cons_of_mem _ (List.mem_cons_of_mem _ e)
    · intro y hy
      have h3 := h2 (min n m) List.mem_cons_self
      rcases List.mem_cons.mp hy with e | hy
      · subst e; omega
      · rcases List.mem_cons.mp hy with e | hy
        · subst e; omega
        · exact h2 y (List.mem_cons_of_mem _ hy)
theorem c_max : CaS F fMax (rMax F.G.K) := by
  intro Φ H σ τ tm vs ds s Q rl hd hf k
  unfold fMax at hf
  split at hf
  · split at hf
    · rename_i n ns e4
      cases hf
      obtain ⟨v, rfl, h⟩ := rd1 hd
      obtain ⟨b, ws, e2, e3, q⟩ := h.lst rl.le
      subst e2
      rw [ints_fz q e4] at e3
      obtain ⟨h1, h2⟩ := foldl_max ns n
      refine ⟨b, n :: ns, rfl, .inl (.inl e3), by simp, fun m hm hy => ?_⟩
      have : m = ns.foldl max n := Int.le_antisymm (h2 m hm) (hy _ h1)
      rw [this]
      exact k _ _ _ (rl.val (.int _))
    · cases hf
  · cases hf
theorem c_min : CaS F fMin (rMin F.G.K) := by
  intro Φ H σ τ tm vs ds s Q rl hd hf k
  unfold fMin at hf
  split at hf
  · split at hf
    · rename_i n ns e4
      cases hf
      obtain ⟨v, rfl, h⟩ := rd1 hd
      obtain ⟨b, ws, e2, e3, q⟩ := h.lst rl.le
      subst e2
      rw [ints_fz q e4] at e3
      obtain ⟨h1, h2⟩ := foldl_min ns n
      refine ⟨b, n :: ns, rfl, .inl (.inl e3), by simp, fun m hm hy => ?_⟩
      have : m = ns.foldl min n := Int.le_antisymm (hy _ h1) (h2 m hm)
      rw [this]
      exact k _ _ _ (rl.val (.int _))
    · cases hf
  · cases hf
theorem x_max (ft : Fits X F W) (hm : X.mg "max" = none) (ha : LM X F W [a] ms) (hg : Gl X "max" := by rfl) (he : starEach [a] X.env = (false, eval a X.env) :: starEach [] X.env := by rfl) : EM X F W (.Call (.Name "max" p) [a] [] pos) (eCB fMax ms) := em_callB (cr_max ft.calm) (by rw [ft.K]; exact c_max) hm ha (by decide +kernel) hg (by decide) (by decide) he rfl
theorem x_min (ft : Fits X F W) (hm : X.mg "min" = none) (ha : LM X F W [a] ms) (hg : Gl X "min" := by rfl) (he : starEach [a] X.env = (false, eval a X.env) :: starEach [] X.env := by rfl) : EM X F W (.Call (.Name "min" p) [a] [] pos) (eCB fMin ms) := em_callB (cr_min ft.calm) (by rw [ft.K]; exact c_min) hm ha (by decide +kernel) hg (by decide) (by decide) he rfl
end
end Mi

/-! ### M24: C(k = v, ..) -/
namespace Mi
open PySem PySem.Spec PyProof.Rows L2
section
variable {X : Cx} {F : Fm} {W : WX} {Φ Φ' H H' : Hp} {σ : L2.St} {τ τ' : List S} {tm : Env1} {pos p : Pos} {ms : M (List S)} {k n : Nat} {mf : Fn} {c : Str}
theorem sp_make {C x dx : Addr} {vs : List V} {ds : List D} {Q : VK} (g : F.G.cls c = some C) (hn : ∀ ss, mf ss ≠ .stuck → ss.length = n) (hx : H x = none) (hdx : H dx = none) (ne : dx ≠ x) (r : Rl F Φ H σ τ tm) (q : FzL F.G Φ vs ds) (p2 : Wp F W tm (match mf (.lent 0 (.ins c []) :: ds.map S.val) with
  | .ok (.val .non, .lent _ o :: _) => .ok (.own o, τ)
  | .exc cc fs _ => .exc cc fs τ
  | _ => .stuck) fun s τ' => ∀ v H' Φ', Rl F Φ' H' σ τ' ((some v, s) :: tm) → Q v H') : spM F.G n mf (.ref x :: vs) (upd (upd H dx (.own x)) x (.ins C dx [])) (fun v H2 => v = .non ∧ Q (.ref x) H2) (WE W σ) := by
  have nx : upd H dx (.own x) x = none := by rw [upd_ne (Ne.symm ne)]; exact hx
  have r3 : Rl F Φ (upd (upd H dx (.own x)) x (.ins C dx [])) σ τ tm := (r.beside hdx).beside nx
  have ow : Ow F.G Φ (upd (upd H dx (.own x)) x (.ins C dx [])) x (.ins c []) := ⟨C, dx, [], upd_same, g, .nil⟩
  have fx : Φ x = none := r.fre hx
  have ent := r3.enter1 q ow fx
  have ne' : mf (.lent 0 (.ins c []) :: ds.map S.val) ≠ .stuck := fun z => by
    rw [z] at p2
    exact p2
  have there : ∀ {b : Addr} {u : HO}, H b = some u → upd (upd H dx (.own x)) x (.ins C dx []) b = some u := fun {b u} hb => by
    rw [upd_ne (ne_of_none hb hx), upd_ne (ne_of_none hb hdx)]
    exact hb
  have back : ∀ {Φ' H' : Hp} {out : List S} {tmc : Env1}, Rl ⟨F.G, Φ, upd (upd H dx (.own x)) x (.ins C dx []), fun n => if n = 0 then some x else none, none⟩ Φ' H' ((V.ref x :: vs).map some) out tmc → Rl F Φ' H' σ τ tm := fun {Φ' H' out tmc} cc =>
    r.grow cc.le0 cc.le (fun b o hb h2 => cc.pres b o (there hb) (fun j z => by
      by_cases hj : j = 0
      · have z' : some x = some b := by rw [← z]; exact (if_pos hj).symm
        cases z'
        rw [hx] at hb; cases hb
      · have z' : none = some b := by rw [← z]; exact (if_neg hj).symm
        cases z') h2) (fun b o hb => (cc.new b o hb).imp id fun z => none_upd b (none_upd b z)) cc.tabs fun b hb => none_upd b (none_upd b (cc.dom b hb))
  refine ⟨Φ, _, .lent 0 (.ins c []) :: ds.map S.val, hn _ ne', ent, fun s hs => ?_, ?_⟩
  · rcases List.mem_cons.mp hs with e | hs
    · rw [e]; trivial
    · obtain ⟨d, _, e⟩ := List.mem_map.mp hs
      rw [← e]; trivial
  · cases hm : mf (.lent 0 (.ins c []) :: ds.map S.val) with
    | stuck => exact ne' hm
    | exc cc fs out =>
      rw [hm] at p2
      intro cls d H' Φ' c1 xr
      exact p2 cls d σ H' Φ' (back c1) xr
    | ok pr =>
      obtain ⟨r', out⟩ := pr
      rw [hm] at p2
      intro v H' Φ' c1
      cases r' with
      | val d =>
        cases d with
        | non =>
          cases out with
          | nil => exact p2.elim
          | cons s0 out =>
            cases s0 with
            | lent j o' =>
              obtain ⟨y, ev, fv⟩ := c1.hd
              cases ev
              cases fv
              refine ⟨rfl, ?_⟩
              have r4 := back c1
              have o1 : One ⟨F.G, Φ, upd (upd H dx (.own x)) x (.ins C dx []), fun n => if n = 0 then some x else none, none⟩ Φ' H' ((V.ref x :: vs).map some) (.lent j o' :: out) (some (.ref x), .lent j o') := c1.one _ (List.mem_append_left _ (by
                show _ ∈ ((some (V.ref x)) :: vs.map some).zip (.lent j o' :: out)
                exact List.mem_cons_self))
              obtain ⟨b, eb, w2, fb, _⟩ := o1
              cases eb
              refine p2 (.ref x) H' Φ' (r4.put (p := (some (.ref x), .own o')) ⟨x, rfl, w2, fb, r.dom x hx⟩ fun z hz b hb hq => ?_)
              cases hb
              exact r.there z hz x hq hx
            | _ => exact p2.elim
        | _ => exact p2.elim
      | _ => exact p2.elim
structure MakK (P : Program) (w : World) (K : PySem.W.Frag) (mg : Str → Option Value) (base : Heap) (G : Gx) (k : Nat) (c : Str) (n : Nat) (ks : List Str) (ix : List Nat) (mf : Fn) : Prop where
  ex : ∃ C f fd ps, G.cls c = some C ∧ mg c = some (.ref C) ∧ Mk K C f ∧ FnOk P w K mg base (L2.CX P w) k f fd ps (spM G n mf) ∧ ∀ (s : Shared) (v : Value) (ws : List Value), ws.length = ks.length → BindsTo s fd ⟨[v], ks.zip ws⟩ (ps.zip (v :: pick .none ix ws))
  ar : ∀ ss, mf ss ≠ .stuck → ss.length = n
def eMakeK (c : Str) (ix : List Nat) (nk : Nat) (mf : Fn) (ms : M (List S)) : M S := M.bnd ms fun ss => M.bnd (takeAll ss) fun ds => fun τ => if ds.length = nk then (match mf (.lent 0 (.ins c []) :: (pick .non ix ds).map S.val) with
  | .ok (.val .non, .lent _ o :: _) => .ok (.own o, τ)
  | .exc cc fs _ => .exc cc fs τ
  | _ => .stuck) else .stuck
theorem run_mkK {CX : CXT} {fi C : Addr} {fd : FuncData} {ps ks : List Str} {ix : List Nat} {sp : Sp} {E : XK} {pins : List (Addr × Obj)} {s : Shared} {Q : VK} {ws : List Value} {zs : List V} (Mc : Mk X.K C fi) (Ok : FnOk X.prog X.w X.K X.mg X.base CX k fi fd ps sp) (room : Room (k + 1) X.A)
    (bd : ∀ (s : Shared) (v : Value) (ws : List Value), ws.length = ks.length → BindsTo s fd ⟨[v], ks.zip ws⟩ (ps.zip (v :: pick .none ix ws))) (out : PassesAt CX X σ E) (In : Inv X pins σ H s) (rv : Vals zs ws) (hl : zs.length = ks.length) (go : ∀ x dx, H x = none → H dx = none → dx ≠ x → sp (.ref x :: pick .non ix zs) (upd (upd H dx (.own x)) x (.ins C dx [])) (fun v H2 => v = .non ∧ Q (.ref x) H2) E) :
    wpAny (model X.prog X.w) X.A (call (.ref C) [] (ks.zip ws)) (EP X pins σ Q) X.xe s := by
  have g1 := go (s.heap.objs.size + 1) s.heap.objs.size (In.hok.fresh (Nat.le_succ _)) (In.hok.fresh (Nat.le_refl _)) (Nat.ne_of_lt (Nat.lt_succ_self _))
  have In2 := Inv.made (C := C) In
  have rv2 : Vals (V.ref (s.heap.objs.size + 1) :: pick .non ix zs) (Value.ref (s.heap.objs.size + 1) :: pick .none ix ws) := .cons rfl (pick_vals rv)
  refine wpAny_call (make_map (f := fi) In.kIn Mc.makes Mc.init (beq_iff_eq.mp Mc.fn) (codeAny_mono (Ok.run _ X.stack _ _ ⟨[Value.ref (s.heap.objs.size + 1)], ks.zip ws⟩ (Value.ref (s.heap.objs.size + 1) :: pick .none ix ws) _ _ E (room.make C [] (ks.zip ws)) (In2.env0.make C [] (ks.zip ws)) (bd _ _ ws (by rw [← rv.length]; exact hl)) rv2 g1) fun r s' hq => ?_))
  cases r with
  | error e => exact out pins _ _ e s' In2 hq
  | ok fl =>
    cases fl with
    | ret u =>
      obtain ⟨v, H', In3, r3, ev, q3⟩ := In2.after hq
      subst ev
      exact ⟨r3, ⟨V.ref (s.heap.objs.size + 1), H', In3, rfl, q3⟩⟩
    | next => exact False.elim hq
    | brk => exact False.elim hq
    | cont => exact False.elim hq
theorem em_makeK {kws : List Keyword} {ks : List Str} {ix : List Nat} (ft : Fits X F W) (hr : Room (k + 1) X.A) (mo : MakK X.prog X.w X.K X.mg X.base F.G k c n ks ix mf) (ha : KM X F W kws ms) (hall : (backToKw pos (keywordEach kws X.env)).all (·.1.isSome) = true := by rfl) (hks : (backToKw pos (keywordEach kws X.env)).filterMap (·.1) = ks := by rfl)
    (hg : Gl X c := by rfl) (hdb : (c == ("__debug__" : Str)) = false := by decide) (hpl : ((backTo pos (starEach [] X.env)).any (·.1) || (backToKw pos (keywordEach kws X.env)).any (·.1.isNone)) = false := by rfl) :
    EM X F W (.Call (.Name c p) [] kws pos) (eMakeK c ix ks.length mf ms) := by
  obtain ⟨C, f, fd, ps, g, gm, Mc, Ok, b⟩ := mo.ex
  refine ⟨fun pins s σ H Q I ⟨Φ, τ, tm, rl, h⟩ => ?_⟩
  refine wpAny_Call_Name_kw (ld_glob I hg gm ?_ hdb)
  refine PySem.W.callWith_KW0 (h₀ := X.base) I.ok.mod.kin Mc.kp hall ?_ hpl
  have t : TLm F W ms σ H fun zs H1 => zs.length = ks.length ∧ ∀ x dx, H1 x = none → H1 dx = none → dx ≠ x → spM F.G n mf (.ref x :: pick .non ix zs) (upd (upd H1 dx (.own x)) x (.ins C dx [])) (fun v H2 => v = .non ∧ Q (.ref x) H2) (WE W σ) := by
    refine tl_go rl h.bnd fun ss τ1 vs H1 Φ1 p1 l r1 => ?_
    obtain ⟨ds, τ2, e, p2⟩ := takeAll_cases (Wp.bnd p1)
    obtain ⟨Φ2, r2, q⟩ := Rl.takenAll l r1 e
    split at p2
    · rename_i hz
      exact ⟨by rw [q.length]; exact hz, fun x dx hx hdx ne => sp_make g mo.ar hx hdx ne r2 (pick_fz q) p2⟩
    · exact p2.elim
  refine thn (ha.run pos pins s σ H _ I t) fun ws s2 ⟨zs, H2, I2, rz, hl0, q2⟩ => ⟨I2.kIn, ?_⟩
  rw [hks]
  exact run_mkK Mc Ok hr b (passAt ft.tk σ) I2 rz hl0 q2
end
end Mi

/-! ### M25: is, is not of None and of truths -/
namespace Mi
open PySem PySem.Spec PyProof.Rows L2
section
variable {X : Cx} {F : Fm} {W : WX} {a b : Expr} {ma mb : M S} {pos : Pos}
def isD (d e : D) : Option Bool := match e with
  | .non => some (Mi.isNon d)
  | .bl b => (match d with
    | .bl c => some (decide (c = b))
    | _ => none)
  | _ => none
def fIs (d e : D) : Option S := (isD d e).map fun b => .val (.bl b)
def fIsnt (d e : D) : Option S := (isD d e).map fun b => .val (.bl !b)
theorem isD_ok {Φ H : Hp} {v w : V} {d e : D} {k : Bool} (hd : Rdv F Φ H v d) (he : Rdv F Φ H w e) (h : isD d e = some k) : (w = .non ∧ k = decide (v = .non)) ∨ ∃ c b : Bool, v = .bl c ∧ w = .bl b ∧ k = decide (c = b) := by
  unfold isD at h
  split at h
  · cases h
    exact .inl ⟨he.non, (rd_isN hd).symm⟩
  · split at h
    · cases h
      exact .inr ⟨_, _, hd.bl, he.bl, rfl⟩
    · cases h
  · cases h
theorem o_is : OpS F fIs (fun x y H Q => (y = .non ∧ Q (.bl (decide (x = .non))) H) ∨ rIsB x y H Q) := by
  intro Φ H σ τ tm v w d e s Q rl hd he hf k
  obtain ⟨c, e1, rfl⟩ := Option.map_eq_some_iff.mp hf
  rcases isD_ok hd he e1 with ⟨h1, rfl⟩ | ⟨c, b, h1, h2, rfl⟩
  · exact .inl ⟨h1, k _ _ _ (rl.val (.bl _))⟩
  · exact .inr ⟨c, b, h1, h2, k _ _ _ (rl.val (.bl _))⟩
theorem o_isnt : OpS F fIsnt (fun x y H Q => (y = .non ∧ Q (.bl (!decide (x = .non))) H) ∨ rNotB x y H Q) := by
  intro Φ H σ τ tm v w d e s Q rl hd he hf k
  obtain ⟨c, e1, rfl⟩ := Option.map_eq_some_iff.mp hf
  rcases isD_ok hd he e1 with ⟨h1, rfl⟩ | ⟨c, b, h1, h2, rfl⟩
  · exact .inl ⟨h1, k _ _ _ (rl.val (.bl _))⟩
  · exact .inr ⟨c, b, h1, h2, k _ _ _ (rl.val (.bl _))⟩
theorem x_isb (ha : EM X F W a ma) (hb : EM X F W b mb) : EM X F W (.Compare a [.Is] [b] pos) (eOp fIs ma mb) := em_cmp (op_isN.or op_isBl) o_is ha hb (nomark b)
theorem x_isntb (ha : EM X F W a ma) (hb : EM X F W b mb) : EM X F W (.Compare a [.IsNot] [b] pos) (eOp fIsnt ma mb) := em_cmp (op_notN.or op_notBl) o_isnt ha hb (nomark b)
theorem t_isb (ha : EM X F W a ma) (hb : EM X F W b mb) : BM X F W (.Compare a [.Is] [b] pos) (bVal (eOp fIs ma mb)) := bm_cmp (op_isN.or op_isBl) o_is ha hb (nomark b)
theorem t_isntb (ha : EM X F W a ma) (hb : EM X F W b mb) : BM X F W (.Compare a [.IsNot] [b] pos) (bVal (eOp fIsnt ma mb)) := bm_cmp (op_notN.or op_notBl) o_isnt ha hb (nomark b)
/-! #### a list so many times -/
def fRep : D → D → Option S
  | .lst xs, .int k => if -(2 ^ 63) ≤ k ∧ k < 2 ^ 63 ∧ xs.length * k.toNat ≤ sizeLine then some (.own (.lst (List.replicate k.toNat xs).flatten)) else none
  | _, _ => none
theorem fz_rep {G : Gx} {Φ : Hp} {vs : List V} {ds : List D} (q : FzL G Φ vs ds) : ∀ n : Nat, FzL G Φ (List.replicate n vs).flatten (List.replicate n ds).flatten
  | 0 => .nil
  | n + 1 => by
    rw [List.replicate_succ, List.replicate_succ, List.flatten_cons, List.flatten_cons]
    exact FzL.append q (fz_rep q n)
theorem o_rep : OpS F fRep rRep := by
  intro Φ H σ τ tm v w d e s Q rl hd he hf k
  unfold fRep at hf
  split at hf
  · split at hf
    · rename_i hz
      cases hf
      obtain ⟨a, vs, rfl, e3, q⟩ := hd.lst rl.le
      exact ⟨a, _, vs, rfl, he.int, e3, hz.1, hz.2.1, by rw [q.length]; exact hz.2.2, fun p hp => k _ _ _ (rl.mine hp (fz_rep q _))⟩
    · cases hf
  · cases hf
theorem x_rep (ha : EM X F W a ma) (hb : EM X F W b mb) : EM X F W (.BinOp a .Mult b pos) (eOp fRep ma mb) := em_op op_rep o_rep ha hb
end
end Mi

/-! ### M26: facts of C(k = v, ..) -/
namespace Mi
open PySem PySem.Spec PyProof.Rows L2
section
variable {fa : List He.Fa} {fn : List He.DefD} {tq : List Tq} {exs : PySem.W.Frag → List Bool} {P : Program} {w : World} {K : PySem.W.Frag} {mg : Str → Option Value} {base : Heap} {k n : Nat} {mf : Fn} {c qual : Str} {ps ks : List Str} {ix : List Nat} {fd : FuncData} {params : Arguments} {bdy : List Stmt} {scope : Scope}
theorem makK (hd : HdOk fa fn tq exs K mg base) (h : makB c K = true) (Fu : FunD K "__init__" qual params bdy scope [] [] (He.fAd K (c, some "__init__")) fd) (ok : FnOk P w K mg base (L2.CX P w) k (He.fAd K (c, some "__init__")) fd ps (spM (gxOf tq K mg) n mf))
    (hb : ∀ (kV doc pm : Value) (an : Option Addr) (cdv ct v : Value) (ws : List Value), ws.length = ks.length → bindArgs (PySem.W.fnOf "__init__" qual params bdy scope .none kV doc pm an cdv ct) ⟨[v], ks.zip ws⟩ = pure (ps.zip (v :: pick .none ix ws))) (ar : ∀ ss, mf ss ≠ .stuck → ss.length = n) : MakK P w K mg base (gxOf tq K mg) k c n ks ix mf := by
  obtain ⟨h1, h2⟩ := He.ba h
  have hm := hd.gl c h1
  refine ⟨⟨He.ga K c, He.ma K (He.ga K c) "__init__", fd, ps, glOf_iff.mpr hm, hm, He.mkr_ok h2, ok, fun s v ws hw => ?_⟩, ar⟩
  obtain ⟨oc, od, dV, kV, doc, pm, an, cdv, ct, osl, rfl, lk, hcd, hD, hK⟩ := Fu.ex
  rcases hD with ⟨_, rfl⟩ | ⟨e, _⟩
  · exact .of_eq (hb kV doc pm an cdv ct v ws hw)
  · exact absurd rfl e
end
end Mi

/-! ### M27: texts joined -/
namespace Mi
open PySem PySem.Spec PyProof.Rows L2
section
variable {X : Cx} {F : Fm} {W : WX} {Φ : Hp} {o e : Expr} {mo ma : M S} {apos pos : Pos}
def strsD : List D → Option (List Str)
  | [] => some []
  | .str b :: ds => (strsD ds).map (b :: ·)
  | _ => none
theorem strs_fz {G : Gx} : ∀ {vs : List V} {ds : List D} {ys : List Str}, FzL G Φ vs ds → strsD ds = some ys → vs = ys.map V.str
  | _, [], ys, .nil, e => by cases e; rfl
  | _, d :: ds, ys, .cons h t, e => by
    cases d with
    | str b =>
      unfold strsD at e
      obtain ⟨zs, e1, rfl⟩ := Option.map_eq_some_iff.mp e
      cases h
      rw [strs_fz t e1]
      rfl
    | _ => cases e
def fJoin : D → D → Option S
  | .str a, .lst xs => (match strsD xs with
    | some ys => if (ys.map (·.length)).sum + ys.length * a.length ≤ 16777216 then some (.val (.str (Txt.join a ys))) else none
    | none => none)
  | _, _ => none
theorem x_join (ho : EM X F W o mo) (ha : EM X F W e ma) (hs : starEach [e] X.env = [(false, eval e X.env)] := by rfl) (hbase : attributeBase o "join" X.env (eval o X.env) = eval o X.env := by rfl) (hline : (apos.endLine == pos.line) = true := by rfl) :
    EM X F W (.Call (.Attribute o "join" apos) [e] [] pos) (eSM fJoin mo ma) := em_sm PySem.F.slot_str_join PySem.F.type_str_join mt_join (fun {Φ H σ τ tm v w d e s Q} rl h1 h2 hf k => by
  unfold fJoin at hf
  split at hf
  · split at hf
    · rename_i ys e4
      split at hf
      · rename_i hz
        cases hf
        obtain ⟨b, ws, e2, e3, q⟩ := h2.lst rl.le
        subst e2
        rw [strs_fz q e4] at e3
        exact ⟨_, b, ys, h1.str, rfl, .inl (.inl (.inl e3)), hz, k _ _ _ (rl.val (.str _))⟩
      · cases hf
    · cases hf
  · cases hf) ho ha hs hbase hline
end
end Mi

/-! ### M28: sorted of ints -/
namespace Mi
open PySem PySem.Spec PyProof.Rows L2
section
variable {X : Cx} {F : Fm} {W : WX} {a : Expr} {ms : M (List S)} {pos p : Pos}
def srtI (ns : List Int) : List Int := ns.mergeSort fun a b => decide (a ≤ b)
theorem srtI_ok (ns : List Int) : (srtI ns).Perm ns ∧ (srtI ns).Pairwise (· ≤ ·) := by
  refine ⟨List.mergeSort_perm _ _, ?_⟩
  have h := List.pairwise_mergeSort (le := fun a b : Int => decide (a ≤ b)) (fun a b c h1 h2 => by
    have h1 := of_decide_eq_true h1
    have h2 := of_decide_eq_true h2
    exact decide_eq_true (by omega)) (fun a b => by
    by_cases q : a ≤ b
    · simp [q]
    · simp [q]; omega) ns
  exact h.imp fun q => of_decide_eq_true q
theorem srtI_eq {ns ns' : List Int} (h : ns'.Perm ns) (w : ns'.Pairwise (· ≤ ·)) : ns' = srtI ns := by
  obtain ⟨h1, h2⟩ := srtI_ok ns
  exact List.Perm.eq_of_pairwise (fun a b _ _ q r => Int.le_antisymm q r) w h2 (h.trans h1.symm)
def fSorted : List D → Option S
  | [.lst xs] => (match intsD xs with
    | some ns => if ns.length < 64 then some (.own (.lst ((srtI ns).map .int))) else none
    | none => none)
  | _ => none
theorem c_sorted : CaS F fSorted (rSorted F.G.K) := by
  intro Φ H σ τ tm vs ds s Q rl hd hf k
  unfold fSorted at hf
  split at hf
  · split at hf
    · rename_i ns e4
      split at hf
      · rename_i hz
        cases hf
        obtain ⟨v, rfl, h⟩ := rd1 hd
        obtain ⟨b, ws, e2, e3, q⟩ := h.lst rl.le
        subst e2
        rw [ints_fz q e4] at e3
        refine ⟨b, ns, rfl, .inl (.inl e3), hz, fun ns' l pm pw hl => ?_⟩
        rw [srtI_eq pm pw]
        exact k _ _ _ (rl.mine hl (fz_ints _))
      · cases hf
    · cases hf
  · cases hf
theorem x_sorted (ft : Fits X F W) (hm : X.mg "sorted" = none) (ha : LM X F W [a] ms) (hg : Gl X "sorted" := by rfl) (he : starEach [a] X.env = (false, eval a X.env) :: starEach [] X.env := by rfl) : EM X F W (.Call (.Name "sorted" p) [a] [] pos) (eCB fSorted ms) := em_callB cr_sorted (by rw [ft.K]; exact c_sorted) hm ha (by decide +kernel) hg (by decide) (by decide) he rfl
end
end Mi

/-! ### M29: o.m(k = v, ..) -/
namespace Mi
open PySem PySem.Spec PyProof.Rows L2
section
variable {X : Cx} {F : Fm} {W : WX} {Φ Φ' H H' : Hp} {σ : L2.St} {τ τ' : List S} {tm : Env1} {o : Expr} {mo : M S} {pos : Pos} {ms : M (List S)} {k n : Nat} {mf : Fn} {ks : List Str} {ix : List Nat}
def BindK (fd : FuncData) (ps ks : List Str) (ix : List Nat) : Prop := ∀ (s : Shared) (v : Value) (ws : List Value), ws.length = ks.length → BindsTo s fd ⟨[v], ks.zip ws⟩ (ps.zip (v :: pick .none ix ws))
theorem pe_methAK {m : Str} {pl : Sem Bool} {apos : Pos} {ta : L2.TE} {t : L2.TA} {kws : List Keyword} (he : PE X o ta) (room : Room k X.A) (tk : Takes X W) (ha : PK X kws t) (hall : (backToKw pos (keywordEach kws X.env)).all (·.1.isSome) = true) (hks : (backToKw pos (keywordEach kws X.env)).filterMap (·.1) = ks)
    (hpl : ((backTo pos (starEach [] X.env)).any (·.1) || (backToKw pos (keywordEach kws X.env)).any (·.1.isNone)) = false)
    (ht : eval (.Call (.Attribute o m apos) [] kws pos) X.env = (do
      let ov ← eval o X.env
      standAt apos.atName
      let (f, first) ← holding [ov] (getMethod ov m pl)
      callWith pos f first (backTo pos (starEach [] X.env)) (backToKw pos (keywordEach kws X.env)))) :
    PE X (.Call (.Attribute o m apos) [] kws pos) (fun σ H Q => ta σ H fun x H1 => ∃ b C dx fs f fd ps sp, x = .ref b ∧ H1 b = some (.ins C dx fs) ∧ fs.lookup m = none ∧ Cls X.K C ∧ Meth X.K C m f ∧ FnOk X.prog X.w X.K X.mg X.base (L2.CX X.prog X.w) k f fd ps sp ∧ BindK fd ps ks ix ∧ t σ H1 fun zs H2 => zs.length = ks.length ∧ sp (x :: pick .non ix zs) H2 Q (WE W σ)) := by
  refine ⟨fun pins s σ H Q In h => ?_⟩
  refine PySem.W.methodCall_KW (pl := pl) (thn (he.run pins s σ H _ In h) fun u s1 ⟨x, H1, In1, rx, b, C, dx, fs, f, fd, ps, sp, ex, eb, l, c, hm, Ok, bd, q⟩ => ?_) ht
  subst ex
  obtain rfl : u = Value.ref b := rx
  refine getmeth_ok In1 eb c hm l ?_
  refine PySem.W.callWith_KW0 (first := [.ref b]) (h₀ := X.base) In.ok.mod.kin hm.kp hall ?_ hpl
  refine thn (ha.run pos pins s1 σ H1 _ In1 q) fun ws s2 ⟨zs, H2, In2, rz, hl, q2⟩ => ⟨In2.kIn, ?_⟩
  rw [hks]
  refine wpAny_call (codeAny_mono (Ok.run X.A X.stack s2 H2 ⟨[.ref b], ks.zip ws⟩ (.ref b :: pick .none ix ws) (.ref b :: pick .non ix zs) Q (WE W σ) room In2.env0 (bd s2 _ ws (by rw [← rz.length]; exact hl)) (.cons rfl (pick_vals rz)) q2) fun r s' hq => ?_)
  cases r with
  | error e => exact passAt tk σ pins H2 s2 e s' In2 hq
  | ok fl =>
    cases fl with
    | ret u => exact In2.after hq
    | next => exact False.elim hq
    | brk => exact False.elim hq
    | cont => exact False.elim hq
structure MetK (P : Program) (w : World) (K : PySem.W.Frag) (mg : Str → Option Value) (base : Heap) (G : Gx) (k : Nat) (m : Str) (n : Nat) (ks : List Str) (ix : List Nat) (tab : Str → Option Fn) : Prop where
  ex : ∀ c mf, tab c = some mf → ∀ C, G.cls c = some C → ∃ f fd ps, Cls K C ∧ Meth K C m f ∧ FnOk P w K mg base (L2.CX P w) k f fd ps (spM G n mf) ∧ BindK fd ps ks ix
  pr : ∀ c mf, tab c = some mf → Proper mf
  ar : ∀ c mf, tab c = some mf → ∀ ss, mf ss ≠ .stuck → ss.length = n
def onMethK (ix : List Nat) (nk : Nat) (mf : Fn) (s : S) (ss : List S) : M S := M.bnd (takeAll ss) fun ds => if ds.length = nk then onMeth mf s ((pick .non ix ds).map S.val) else fun _ => .stuck
def eMethK (m : Str) (ix : List Nat) (nk : Nat) (tab : Str → Option Fn) (mo : M S) (ms : M (List S)) : M S := M.bnd mo fun s0 => M.bnd (norm s0) fun s => fun τ => match insAt τ s with
  | some (c, fs) => (match tab c, fs.lookup m with
    | some mf, none => (M.bnd ms fun ss => onMethK ix nk mf s ss) τ
    | _, _ => .stuck)
  | none => .stuck
theorem on_methK {v : V} {s : S} {vs : List V} {ss : List S} {Q : VK} (pr : Proper mf) (hn : ∀ ss, mf ss ≠ .stuck → ss.length = n) (l : vs.length = ss.length) (r : Rl F Φ H σ τ ((vs.map some).zip ss ++ ((some v, s) :: tm))) (h : Wp F W tm (onMethK ix ks.length mf s ss τ) fun s τ' => ∀ v H' Φ', Rl F Φ' H' σ τ' ((some v, s) :: tm) → Q v H') : vs.length = ks.length ∧ spM F.G n mf (v :: pick .non ix vs) H Q (WE W σ) := by
  obtain ⟨ds, τ2, e, p2⟩ := takeAll_cases (Wp.bnd h)
  obtain ⟨Φ2, r2, q⟩ := Rl.takenAll l r e
  split at p2
  · rename_i hz
    refine ⟨by rw [q.length]; exact hz, on_meth (Φ := Φ2) pr hn ?_ ?_ p2⟩
    · rw [List.length_map, (pick_fz (ix := ix) q).length]
    · exact r2.vals (pick_fz q)
  · exact p2.elim
theorem t_methK {m : Str} {tab : Str → Option Fn} {Q : VK} (mk : MetK X.prog X.w X.K X.mg X.base F.G k m n ks ix tab) (h : TEm F W (eMethK m ix ks.length tab mo ms) σ H Q) : TEm F W mo σ H fun x H1 => ∃ b C dx fs f fd ps sp, x = .ref b ∧ H1 b = some (.ins C dx fs) ∧ fs.lookup m = none ∧ Cls X.K C ∧ Meth X.K C m f ∧ FnOk X.prog X.w X.K X.mg X.base (L2.CX X.prog X.w) k f fd ps sp ∧ BindK fd ps ks ix ∧ TLm F W ms σ H1 fun zs H2 => zs.length = ks.length ∧ sp (x :: pick .non ix zs) H2 Q (WE W σ) := by
  obtain ⟨Φ, τ, tm, rl, h⟩ := h
  refine te_go rl h.bnd fun s0 τ1 v H1 Φ1 p1 r1 => ?_
  obtain ⟨s, τ2, Φ2, r2, p2⟩ := norm_cases r1 (Wp.bnd p1)
  cases e : insAt τ2 s with
  | none => simp only [e] at p2; exact p2.elim
  | some cf =>
    obtain ⟨c, fs⟩ := cf
    simp only [e] at p2
    obtain ⟨b, C, dx, vs, rfl, hb, g, ff⟩ := insAt_ok r2 r2.hd e
    cases e1 : tab c with
    | none => simp only [e1] at p2; exact p2.elim
    | some mf =>
      cases e2 : fs.lookup m with
      | some _ => simp only [e1, e2] at p2; exact p2.elim
      | none =>
        simp only [e1, e2] at p2
        obtain ⟨f, fd, ps, c1, c2, Ok, bd⟩ := mk.ex c mf e1 C g
        exact ⟨b, C, dx, vs, f, fd, ps, _, rfl, hb, FzF.look0 ff e2, c1, c2, Ok, bd, tl_go r2 (Wp.bnd p2) fun ss τ3 vs' H3 Φ3 p3 l r3 => on_methK (mk.pr c mf e1) (mk.ar c mf e1) l r3 p3⟩
theorem em_methK {m : Str} {tab : Str → Option Fn} {pl : Sem Bool} {apos : Pos} {kws : List Keyword} (ft : Fits X F W) (hr : Room k X.A) (mk : MetK X.prog X.w X.K X.mg X.base F.G k m n ks ix tab) (he : EM X F W o mo) (ha : KM X F W kws ms) (hall : (backToKw pos (keywordEach kws X.env)).all (·.1.isSome) = true := by rfl) (hks : (backToKw pos (keywordEach kws X.env)).filterMap (·.1) = ks := by rfl)
    (hpl : ((backTo pos (starEach [] X.env)).any (·.1) || (backToKw pos (keywordEach kws X.env)).any (·.1.isNone)) = false := by rfl)
    (ht : eval (.Call (.Attribute o m apos) [] kws pos) X.env = (do
      let ov ← eval o X.env
      standAt apos.atName
      let (f, first) ← holding [ov] (getMethod ov m pl)
      callWith pos f first (backTo pos (starEach [] X.env)) (backToKw pos (keywordEach kws X.env))) := by rfl) :
    EM X F W (.Call (.Attribute o m apos) [] kws pos) (eMethK m ix ks.length tab mo ms) := PE.imp (pe_methAK he hr ft.tk ha hall hks hpl ht) fun σ H Q h => t_methK mk h
end
end Mi

/-! ### M30: list(zip(x, y)) of two tuples of one length -/
namespace Mi
open PySem PySem.Spec PyProof.Rows L2
open RZ (nextOf_tuple_item nextOf_tuple_end)
section
variable {prog : Program} {w : World} {A : Around} {E : Value → Shared → Prop} {s : Shared}
theorem wpAny_alive {M : Model} {a : Addr} {Q : Option Obj → Shared → Prop} (h : Q (s.heap.get? a) s) : wpAny M A (loadIfAlive a) Q E s := fun Γ p hΓ => by
  unfold loadIfAlive
  rw [Sem.wp_loadIfAlive]
  exact wpAny_pure h Γ p hΓ
abbrev IsZipB (h : Heap) (z TI TO last : Addr) (b : Bool) : Prop := h.get? z = some { cls := .type "zip", dict := none, data := .fields #[rawInt last, .bool b, .bool false, .ref TI, .ref TO], slots := #[] }
theorem free_busy {z TI TO last : Addr} {b : Bool} {Q : Bool → Shared → Prop} (hz : IsZipB s.heap z TI TO last b) (hT : ∃ o, s.heap.get? last = some o) (h : ∀ h', IsZipB h' z TI TO last true → Heap.SameBut z s.heap h' → Q false { s with heap := h' }) :
    wpAny (model prog w) A (Builtin.SmallTypes.ownedTupleIsFree (.ref z)) Q E s := by
  obtain ⟨o, ho⟩ := hT
  unfold Builtin.SmallTypes.ownedTupleIsFree
  refine wpAny_bind (wpAny_field hz rfl (x := rawInt last) rfl ?_)
  show wpAny _ _ (loadIfAlive (last : Int).toNat >>= _) _ _ _
  refine wpAny_bind (wpAny_alive ?_)
  rw [Int.toNat_natCast, ho]
  show wpAny _ _ (field (.ref z) 1 >>= _) _ _ _
  refine wpAny_bind (wpAny_field hz rfl (x := .bool b) rfl ?_)
  cases b with
  | true => exact wpAny_pure (h s.heap hz ⟨rfl, fun _ _ => rfl⟩)
  | false =>
    show wpAny _ _ (setField (.ref z) 1 (.bool true) >>= _) _ _ _
    refine wpAny_bind (wpAny_setField_rec hz (by simp) fun h₁ hz₁ hs₁ => ?_)
    exact wpAny_pure (h h₁ hz₁ hs₁)
structure Apart7 (z TI i1 i2 l1 l2 : Addr) : Prop where
  TIz : TI ≠ z
  TIi1 : TI ≠ i1
  TIi2 : TI ≠ i2
  i1z : i1 ≠ z
  i2z : i2 ≠ z
  i12 : i1 ≠ i2
  l1z : l1 ≠ z
  l1i1 : l1 ≠ i1
  l2z : l2 ≠ z
  l2i1 : l2 ≠ i1
  l2i2 : l2 ≠ i2
theorem busy_item {z TI TO last i1 i2 l1 l2 : Addr} {k1 k2 : Nat} {xs ys : Array Value} {x y : Value} {b : Bool} {Q : Value → Shared → Prop} (D : ZipApart z TI TO i1 i2 l1 l2)
    (hz : IsZipB s.heap z TI TO last b) (hT : ∃ o, s.heap.get? last = some o) (hTI : IsPair s.heap TI (.ref i1) (.ref i2))
    (h1 : s.heap.IsTupleIter i1 l1 k1) (h2 : s.heap.IsTupleIter i2 l2 k2) (hl1 : s.heap.IsTuple l1 xs) (hl2 : s.heap.IsTuple l2 ys) (hx : xs[k1]? = some x) (hy : ys[k2]? = some y)
    (hQ : ∀ h', IsZipB h' z TI TO last true → h'.IsTupleIter i1 l1 (k1 + 1) → h'.IsTupleIter i2 l2 (k2 + 1) → IsPair h' s.heap.objs.size x y → h'.objs.size = s.heap.objs.size + 1 →
      (∀ c o, c ≠ z → c ≠ i1 → c ≠ i2 → s.heap.get? c = some o → h'.get? c = some o) → Q (.ref s.heap.objs.size) { s with heap := h' }) :
    wpAny (model prog w) A (Builtin.«zip.__next__» ⟨[.ref z], []⟩) (fun fin s' => ∃ v, fin = .done (.ret v) ∧ Q v s') E s := by
  show wpAny _ _ (field (.ref z) 2 >>= _) _ _ _
  refine wpAny_bind (wpAny_field hz rfl (x := .bool false) rfl ?_)
  show wpAny _ _ (field (.ref z) 3 >>= _) _ _ _
  refine wpAny_bind (wpAny_field hz rfl (x := .ref TI) rfl ?_)
  refine wpAny_bind (wpAny_seqItems hTI rfl ?_)
  show wpAny _ _ (Builtin.SmallTypes.ownedTupleIsFree (.ref z) >>= _) _ _ _
  refine wpAny_bind (free_busy hz hT fun h₁ hz₁ hs₁ => ?_)
  simp only [Bool.false_eq_true, if_false]
  refine wpAny_bind ?_
  rw [← Array.forIn_toList]
  simp only [List.forIn_cons, List.forIn_nil]
  refine wpAny_bind (wpAny_bind (wpAny_holding ?_))
  show wpAny _ _ (Builtin.SmallTypes.nextOf (.ref i1) >>= _) _ _ _
  refine wpAny_bind (nextOf_tuple_item (h1.extBut hs₁.extBut D.i1z) (hl1.extBut hs₁.extBut D.l1z) hx fun h₂ h1₂ hs₂ => wpAny_pure (wpAny_pure ?_))
  refine wpAny_bind (wpAny_bind (wpAny_holding ?_))
  show wpAny _ _ (Builtin.SmallTypes.nextOf (.ref i2) >>= _) _ _ _
  refine wpAny_bind (nextOf_tuple_item ((h2.extBut hs₁.extBut D.i2z).extBut hs₂.extBut D.i12.symm)
    ((hl2.extBut hs₁.extBut D.l2z).extBut hs₂.extBut D.l2i1) hy fun h₄ h2₄ hs₄ => wpAny_pure (wpAny_pure (wpAny_pure ?_)))
  refine wpAny_bind (wpAny_newTuple (hsz := by show 2 ≤ sizeLine; decide) ?_)
  have hsz : h₄.objs.size = s.heap.objs.size := by rw [hs₄.1, hs₂.1, hs₁.1]
  have hz₄ : IsZipB h₄ z TI TO last true := hs₄.extBut _ _ D.i2z.symm (hs₂.extBut _ _ D.i1z.symm hz₁)
  have hk : ∀ c o, c ≠ z → c ≠ i1 → c ≠ i2 → s.heap.get? c = some o → h₄.get? c = some o := fun c o c1 c3 c4 e => hs₄.extBut _ _ c4 (hs₂.extBut _ _ c3 (hs₁.extBut _ _ c1 e))
  have h1₄ : h₄.IsTupleIter i1 l1 (k1 + 1) := h1₂.extBut hs₄.extBut D.i12
  refine wpAny_pure ⟨_, rfl, ?_⟩
  have hT₈ : IsPair (h₄.push { cls := .type "tuple", data := .seq #[x, y] }) h₄.objs.size x y := Heap.get?_push_size _ rfl
  have hz8 : (h₄.push { cls := .type "tuple", data := .seq #[x, y] }).objs.size = h₄.objs.size + 1 := Heap.size_push ..
  show Q (.ref h₄.objs.size) _
  have up : ∀ c o, h₄.get? c = some o → (h₄.push { cls := .type "tuple", data := .seq #[x, y] }).get? c = some o := fun c o e => Heap.get?_push_of_some _ e
  rw [hsz] at hT₈ hz8
  rw [hsz]
  exact hQ _ (up _ _ hz₄) (h1₄.at fun o e => up _ o e) (h2₄.at fun o e => up _ o e) hT₈ hz8 fun c o c1 c3 c4 e => up c o (hk c o c1 c3 c4 e)
theorem busy_end {z TI TO last i1 i2 l1 l2 : Addr} {k1 k2 : Nat} {xs ys : Array Value} {b : Bool} {Q : Fin → Shared → Prop} (hh : A.handled = none) (D : ZipApart z TI TO i1 i2 l1 l2)
    (hz : IsZipB s.heap z TI TO last b) (hT : ∃ o, s.heap.get? last = some o) (hTI : IsPair s.heap TI (.ref i1) (.ref i2))
    (h1 : s.heap.IsTupleIter i1 l1 k1) (hl1 : s.heap.IsTuple l1 xs) (hx : xs[k1]? = none)
    (hE : ∀ h' e, (∀ c o, c ≠ z → c ≠ i1 → c ≠ i2 → s.heap.get? c = some o → h'.get? c = some o) → (∃ o, h'.get? e = some o ∧ o.cls = .type "StopIteration") → E (.ref e) { s with heap := h' }) :
    wpAny (model prog w) A (Builtin.«zip.__next__» ⟨[.ref z], []⟩) Q E s := by
  show wpAny _ _ (field (.ref z) 2 >>= _) _ _ _
  refine wpAny_bind (wpAny_field hz rfl (x := .bool false) rfl ?_)
  show wpAny _ _ (field (.ref z) 3 >>= _) _ _ _
  refine wpAny_bind (wpAny_field hz rfl (x := .ref TI) rfl ?_)
  refine wpAny_bind (wpAny_seqItems hTI rfl ?_)
  show wpAny _ _ (Builtin.SmallTypes.ownedTupleIsFree (.ref z) >>= _) _ _ _
  refine wpAny_bind (free_busy hz hT fun h₁ hz₁ hs₁ => ?_)
  simp only [Bool.false_eq_true, if_false]
  refine wpAny_bind ?_
  rw [← Array.forIn_toList]
  simp only [List.forIn_cons, List.forIn_nil]
  refine wpAny_bind (wpAny_bind (wpAny_holding ?_))
  show wpAny _ _ (Builtin.SmallTypes.nextOf (.ref i1) >>= _) _ _ _
  exact wpAny_bind (nextOf_tuple_end hh (h1.extBut hs₁.extBut D.i1z) (hl1.extBut hs₁.extBut D.l1z) hx fun h₂ e hs₂ he => hE h₂ e (fun c o c1 c3 _ x => hs₂ _ _ c3 (hs₁.extBut _ _ c1 x)) he)
theorem pyNext_busy_item {z TI TO last i1 i2 l1 l2 : Addr} {k1 k2 : Nat} {xs ys : Array Value} {x y : Value} {b : Bool} {Q : Option Value → Shared → Prop} (D : ZipApart z TI TO i1 i2 l1 l2)
    (hz : IsZipB s.heap z TI TO last b) (hT : ∃ o, s.heap.get? last = some o) (hTI : IsPair s.heap TI (.ref i1) (.ref i2))
    (h1 : s.heap.IsTupleIter i1 l1 k1) (h2 : s.heap.IsTupleIter i2 l2 k2) (hl1 : s.heap.IsTuple l1 xs) (hl2 : s.heap.IsTuple l2 ys) (hx : xs[k1]? = some x) (hy : ys[k2]? = some y)
    (hQ : ∀ h', IsZipB h' z TI TO last true → h'.IsTupleIter i1 l1 (k1 + 1) → h'.IsTupleIter i2 l2 (k2 + 1) → IsPair h' s.heap.objs.size x y → h'.objs.size = s.heap.objs.size + 1 →
      (∀ c o, c ≠ z → c ≠ i1 → c ≠ i2 → s.heap.get? c = some o → h'.get? c = some o) → Q (some (.ref s.heap.objs.size)) { s with heap := h' }) :
    wpAny (model prog w) A (pyNext (.ref z)) Q E s := by
  have hT0 : s.TypeIs (.ref z) "zip" := ⟨_, hz, rfl⟩
  unfold pyNext
  exact wpAny_bind (wpAny_attempt (wpAny_callSpecial?_slot (name := Str.ofString "__next__") hT0 F.slot_zip_next
    (wpAny_call_entry F.slot_zip_next hT0 F.entry_zip_next
      (busy_item D hz hT hTI h1 h2 hl1 hl2 hx hy fun h' a1 a3 a4 a5 a6 a7 => wpAny_pure (hQ h' a1 a3 a4 a5 a6 a7)) (F.args_zip_next_1 _))))
theorem pyNext_busy_end {z TI TO last i1 i2 l1 l2 : Addr} {k1 k2 : Nat} {xs ys : Array Value} {b : Bool} {Q : Option Value → Shared → Prop} (hh : A.handled = none) (D : ZipApart z TI TO i1 i2 l1 l2)
    (hz : IsZipB s.heap z TI TO last b) (hT : ∃ o, s.heap.get? last = some o) (hTI : IsPair s.heap TI (.ref i1) (.ref i2))
    (h1 : s.heap.IsTupleIter i1 l1 k1) (hl1 : s.heap.IsTuple l1 xs) (hx : xs[k1]? = none)
    (hQ : ∀ h', (∀ c o, c ≠ z → c ≠ i1 → c ≠ i2 → s.heap.get? c = some o → h'.get? c = some o) → Q none { s with heap := h' }) : wpAny (model prog w) A (pyNext (.ref z)) Q E s := by
  have hT0 : s.TypeIs (.ref z) "zip" := ⟨_, hz, rfl⟩
  unfold pyNext
  refine wpAny_bind (wpAny_attempt (wpAny_callSpecial?_slot (name := Str.ofString "__next__") hT0 F.slot_zip_next
    (wpAny_call_entry F.slot_zip_next hT0 F.entry_zip_next (busy_end (k1 := k1) (k2 := k2) (ys := ys) hh D hz hT hTI h1 hl1 hx fun h' e hk he => ?_) (F.args_zip_next_1 _))))
  obtain ⟨o, ho, hc⟩ := he
  refine wpAny_bind (wpAny_isInstance (T := "StopIteration") (b := true) ⟨o, ho, hc⟩ isSubtype_stop ?_)
  exact wpAny_pure (hQ _ hk)
end
/-- tuples made one behind another -/
inductive Chain : Hp → List V → List V → Hp → List V → Prop
  | nil {H : Hp} : Chain H [] [] H []
  | cons {H H2 : Hp} {T : Addr} {x y : V} {xs ys vs : List V} : H T = none → Chain (upd H T (.tup [x, y])) xs ys H2 vs → Chain H (x :: xs) (y :: ys) H2 (.ref T :: vs)
theorem Chain.ext {H H2 : Hp} {xs ys vs : List V} (c : Chain H xs ys H2 vs) : Ext H H2 := by
  induction c with
  | nil => exact Ext.rfl'
  | cons h c ih => exact (Ext.upd h).trans ih
/-- the zip object, before its first turn and behind it -/
def ZSt (h : Heap) (z TI TO : Addr) : Prop := (IsZip h z TI TO .none ∧ ∃ x y, IsPair h TO x y) ∨ ∃ last b, IsZipB h z TI TO last b ∧ ∃ o, h.get? last = some o
theorem ZSt.on {h h' : Heap} {z TI TO : Addr} (st : ZSt h z TI TO) (k : ∀ b o, h.get? b = some o → h'.get? b = some o) : ZSt h' z TI TO := by
  rcases st with ⟨a, x, y, p⟩ | ⟨l, b, a, o, e⟩
  · exact .inl ⟨k _ _ a, x, y, k _ _ p⟩
  · exact .inr ⟨l, b, k _ _ a, o, k _ _ e⟩
section
variable {X : Cx} {pins : List (Addr × Obj)} {σ : L2.St}
theorem FpOk.to {H H' : Hp} {b : Addr} (f : FpOk X pins H b) (h : H' b = none) : FpOk X pins H' b := ⟨h, f.2⟩
theorem zip_loop {A : Around} {R : Result → Shared → Prop} {S z TI TO i1 i2 a b : Addr} {res : Value} {xs0 ys0 : List V} (hh : A.handled = none) (D : ZipApart z TI TO i1 i2 a b) (hS5 : S ∉ [z, TI, TO, i1, i2]) (hSab : S ≠ a ∧ S ≠ b) :
    ∀ (rx ry : List V) (i : Nat) (out : List V) (s : Shared) (H : Hp) (acc : Array Value) (c : Nat), xs0.drop i = rx → ys0.drop i = ry → rx.length = ry.length → Inv X pins σ H s → (∀ q ∈ [z, TI, TO, i1, i2, S], FpOk X pins H q) → SqT X.K H a xs0 → SqT X.K H b ys0 →
      ZSt s.heap z TI TO → (∃ o, s.heap.get? TO = some o) → IsPair s.heap TI (.ref i1) (.ref i2) → s.heap.IsTupleIter i1 a i → s.heap.IsTupleIter i2 b i → s.heap.get? S = some { cls := .type "list", dict := none, data := .seq acc c, slots := #[] } → Vals out acc.toList → out.length + rx.length ≤ sizeLine →
      (∀ s' acc' c' H' vs, Chain H rx ry H' vs → Inv X pins σ H' s' → H' S = none → s'.heap.get? S = some { cls := .type "list", dict := none, data := .seq acc' c', slots := #[] } → Vals (out ++ vs) acc'.toList → R (.ok (.ret res)) s') →
      codeAny (model X.prog X.w) A (.builtin "list.extend.loop" ⟨[.ref S, .ref z, res], []⟩) R s := by
  have nS : ∀ q ∈ [z, TI, TO, i1, i2], S ≠ q := fun q hq e => hS5 (e ▸ hq)
  intro rx
  induction rx with
  | nil =>
    intro ry i out s H acc c hx hy hl I hf ha hb st hTO hTI h1 h2 hS hv hle fin
    cases ry with
    | cons _ _ => cases hl
    | nil =>
      refine codeAny_builtin F.entry_extend_loop ?_
      rw [Around.under_plainId F.plain_extend_loop _]
      show wpAny _ A.in1 (pyNext (.ref z) >>= _) _ _ s
      obtain ⟨its, rv, p1, _⟩ := I.tuple ha
      obtain ⟨its2, rv2, p2, _⟩ := I.tuple hb
      have e1 : its.toArray[i]? = none := by
        have := rv.length
        have := List.drop_eq_nil_iff.mp hx
        simp; omega
      have done : ∀ h' : Heap, (∀ q o, q ∉ [z, TI, TO, i1, i2] → s.heap.get? q = some o → h'.get? q = some o) → R (.ok (.ret res)) { s with heap := h' } := fun h' k => by
        refine fin { s with heap := h' } acc c H [] .nil ?_ (hf S (by simp)).1 (k S _ (fun z => hS5 z) hS) (by rw [List.append_nil]; exact hv)
        exact I.turnedL (t' := s.toks) (ch := [z, TI, TO, i1, i2]) k fun q hq => hf q (by
          have : q ∈ [z, TI, TO, i1, i2, S] := by
            simp only [List.mem_cons, List.not_mem_nil, or_false] at hq ⊢
            rcases hq with q | q | q | q | q <;> simp [q]
          exact this)
      rcases st with ⟨q1, x0, y0, q2⟩ | ⟨l, bb, q1, q2⟩
      · exact wpAny_bind (RZ.pyNext_zipT_end hh D q1 hTI q2 h1 h2 p1 p2 (.inl e1) fun h' k => wpAny_pure (done h' fun q o hq e => k q o (fun z => hq (by simp [z])) (fun z => hq (by simp [z])) (fun z => hq (by simp [z])) (fun z => hq (by simp [z])) e))
      · exact wpAny_bind (pyNext_busy_end (k1 := i) (k2 := i) (ys := its2.toArray) hh D q1 q2 hTI h1 p1 e1 fun h' k => wpAny_pure (done h' fun q o hq e => k q o (fun z => hq (by simp [z])) (fun z => hq (by simp [z])) (fun z => hq (by simp [z])) e))
  | cons x rx ih =>
    intro ry i out s H acc c hx hy hl I hf ha hb st hTO hTI h1 h2 hS hv hle fin
    cases ry with
    | nil => cases hl
    | cons y ry =>
      have gx : xs0[i]? = some x := by
        have := congrArg (·[0]?) hx
        simpa using this
      have gy : ys0[i]? = some y := by
        have := congrArg (·[0]?) hy
        simpa using this
      have dx : xs0.drop (i + 1) = rx := by
        have := congrArg (List.drop 1) hx
        simpa [List.drop_drop] using this
      have dy : ys0.drop (i + 1) = ry := by
        have := congrArg (List.drop 1) hy
        simpa [List.drop_drop] using this
      refine codeAny_builtin F.entry_extend_loop ?_
      rw [Around.under_plainId F.plain_extend_loop _]
      show wpAny _ A.in1 (pyNext (.ref z) >>= _) _ _ s
      obtain ⟨its, rv, p1, _⟩ := I.tuple ha
      obtain ⟨its2, rv2, p2, _⟩ := I.tuple hb
      obtain ⟨u, hu, ru⟩ := rv.get gx
      obtain ⟨u2, hu2, ru2⟩ := rv2.get gy
      have go : ∀ h' : Heap, ZSt h' z TI TO → (∃ o, h'.get? TO = some o) → h'.IsTupleIter i1 a (i + 1) → h'.IsTupleIter i2 b (i + 1) → IsPair h' s.heap.objs.size u u2 → (∀ q o, q ≠ z → q ≠ TO → q ≠ i1 → q ≠ i2 → s.heap.get? q = some o → h'.get? q = some o) →
          wpAny (model X.prog X.w) A.in1 (updateSeq S (·.push (.ref s.heap.objs.size)) >>= fun _ => again (.builtin "list.extend.loop" ⟨[.ref S, .ref z, res], []⟩)) (fun fin s' => match fin with | .done f => R (.ok f) s' | .again c' => c'.quiet = true ∧ codeAny (model X.prog X.w) A c' R s') (fun e s' => R (.error e) s') { s with heap := h' } := fun h' zs hTO' t1 t2 hT k => by
        have fr : H s.heap.objs.size = none := I.hok.fresh (Nat.le_refl _)
        have lts : ∀ q ∈ [z, TI, TO, i1, i2, S], q < s.heap.objs.size := fun q hq => by
          have e' : q = z ∨ q = TI ∨ q = TO ∨ q = i1 ∨ q = i2 ∨ q = S := by simpa using hq
          rcases e' with e | e | e | e | e | e
          · rw [e]
            rcases st with ⟨q1, _⟩ | ⟨l, bb, q1, _⟩
            · exact Heap.lt_size q1
            · exact Heap.lt_size q1
          · rw [e]; exact Heap.lt_size hTI
          · rw [e]; obtain ⟨_, e1⟩ := hTO; exact Heap.lt_size e1
          · rw [e]; obtain ⟨_, e1, _⟩ := h1; exact Heap.lt_size e1
          · rw [e]; obtain ⟨_, e1, _⟩ := h2; exact Heap.lt_size e1
          · rw [e]; exact Heap.lt_size hS
        have hfz : ∀ q ∈ [z, TI, TO, i1, i2], FpOk X pins H q := fun q hq => hf q (by
          simp only [List.mem_cons, List.not_mem_nil, or_false] at hq ⊢
          rcases hq with q | q | q | q | q <;> simp [q])
        have new : ObjOk X.prog X.w (upd H s.heap.objs.size (.tup [x, y])) h' s.heap.objs.size (.tup [x, y]) :=
          ⟨by show 2 ≤ sizeLine; decide, [u, u2], .cons ru (.cons ru2 .nil), ⟨_, hT, rfl, _, rfl⟩⟩
        have I1 : Inv X pins σ (upd H s.heap.objs.size (.tup [x, y])) { s with heap := h' } :=
          I.turnedNew (t' := s.toks) (ch := [z, TI, TO, i1, i2]) (fun q o hq e => k q o (fun z => hq (by simp [z])) (fun z => hq (by simp [z])) (fun z => hq (by simp [z])) (fun z => hq (by simp [z])) e) hfz (Nat.le_refl _) new
        have hf1 : ∀ q ∈ [z, TI, TO, i1, i2, S], FpOk X pins (upd H s.heap.objs.size (.tup [x, y])) q := fun q hq => FpOk.to (hf q hq) (by rw [upd_ne (Nat.ne_of_lt (lts q hq))]; exact (hf q hq).1)
        have hS1 : h'.get? S = some { cls := .type "list", dict := none, data := .seq acc c, slots := #[] } := k S _ (nS z (by simp)) (nS TO (by simp)) (nS i1 (by simp)) (nS i2 (by simp)) hS
        obtain ⟨f0, f1, f2, f3, f4, f5⟩ := hf1 S (by simp)
        have oth : ∀ q o, q ≠ S → h'.get? q = some o → (h'.update S (Obj.mapSeq (·.push (.ref s.heap.objs.size)))).get? q = some o := fun q o hq e => (Heap.get?_update_other _ _ (Ne.symm hq)).trans e
        have I2 : Inv X pins σ (upd H s.heap.objs.size (.tup [x, y])) { s with heap := h'.update S (Obj.mapSeq (·.push (.ref s.heap.objs.size))) } := I1.turned (t' := s.toks) (fun q o hq e => oth q o hq e) f0 f1 f3 f4 f5
        have hacc : acc.size = out.length := by
          have := hv.length
          simpa using this.symm
        have nsz : S ≠ s.heap.objs.size := Nat.ne_of_lt (lts S (by simp))
        have hle' : out.length + (rx.length + 1) ≤ sizeLine := hle
        refine wpAny_bind ?_
        refine wpAny_updateSeq hS1 rfl (wpAny_pure ⟨plainId_quiet F.plain_extend_loop _, ih ry (i + 1) (out ++ [.ref s.heap.objs.size]) { s with heap := h'.update S (Obj.mapSeq (·.push (.ref s.heap.objs.size))) } _ _ _ dx dy (by simpa using hl) I2 hf1 (SqT.ext ha (Ext.upd fr)) (SqT.ext hb (Ext.upd fr)) ?_ ?_ ?_ ?_ ?_ (Heap.get?_update_self _ hS1 rfl) ?_ ?_ ?_⟩) (by omega) (by show (acc.push _).size ≤ sizeLine + 1; rw [Array.size_push]; omega)
        · rcases zs with ⟨q1, x1, y1, q2⟩ | ⟨l, bb, q1, o, q2⟩
          · exact .inl ⟨oth _ _ (nS z (by simp)).symm q1, x1, y1, oth _ _ (nS TO (by simp)).symm q2⟩
          · refine .inr ⟨l, bb, oth _ _ (nS z (by simp)).symm q1, ?_⟩
            by_cases e : l = S
            · rw [e]
              exact ⟨_, Heap.get?_update_self _ hS1 rfl⟩
            · exact ⟨o, oth _ _ e q2⟩
        · obtain ⟨o, e⟩ := hTO'
          exact ⟨o, oth _ _ (nS TO (by simp)).symm e⟩
        · exact oth _ _ (nS TI (by simp)).symm (k TI _ D.TIz D.TITO D.TIi1 D.TIi2 hTI)
        · exact t1.at fun o e => oth _ _ (nS i1 (by simp)).symm e
        · exact t2.at fun o e => oth _ _ (nS i2 (by simp)).symm e
        · rw [Array.toList_push]
          exact hv.append (.cons rfl .nil)
        · rw [List.length_append]
          show out.length + 1 + rx.length ≤ sizeLine
          omega
        · intro s' acc' c' H' vs ch I' hn' hS' hv'
          refine fin s' acc' c' H' (.ref s.heap.objs.size :: vs) (.cons fr ch) I' hn' hS' ?_
          have e : out ++ V.ref s.heap.objs.size :: vs = out ++ [V.ref s.heap.objs.size] ++ vs := by simp
          rw [e]
          exact hv'
      rcases st with ⟨q1, x0, y0, q2⟩ | ⟨l, bb, q1, q2⟩
      · exact wpAny_bind (RZ.pyNext_zipT_item D q1 hTI q2 h1 h2 p1 p2 (x := u) (y := u2) (by simpa using hu) (by simpa using hu2) fun h' a1 a2 a3 a4 a5 a6 a7 => go h' (.inr ⟨_, false, a1, _, a5⟩) ⟨_, a2⟩ a3 a4 a5 a7)
      · refine wpAny_bind (pyNext_busy_item D q1 q2 hTI h1 h2 p1 p2 (x := u) (y := u2) (by simpa using hu) (by simpa using hu2) fun h' a1 a3 a4 a5 a6 a7 => ?_)
        obtain ⟨o2, q2⟩ := q2
        obtain ⟨oT, eT⟩ := hTO
        have hl : ∃ o, h'.get? l = some o := by
          by_cases e1 : l = z
          · exact ⟨_, by rw [e1]; exact a1⟩
          · by_cases e2 : l = i1
            · obtain ⟨o, e, _⟩ := a3
              exact ⟨o, by rw [e2]; exact e⟩
            · by_cases e3 : l = i2
              · obtain ⟨o, e, _⟩ := a4
                exact ⟨o, by rw [e3]; exact e⟩
              · exact ⟨o2, a7 l o2 e1 e2 e3 q2⟩
        exact go h' (.inr ⟨l, true, a1, hl⟩) ⟨oT, a7 TO oT D.TOz D.TOi1 D.TOi2 eT⟩ a3 a4 a5 fun q o c1 _ c3 c4 e => a7 q o c1 c3 c4 e
end
end Mi

/-! ### M31: x == y, x != y by an own __eq__ -/
namespace Mi
open PySem PySem.Spec PyProof.Rows L2
section
variable {prog : Program} {w : World} {A : Around} {E : Value → Shared → Prop} {s : Shared} {K : PySem.W.Frag} {x C f : Addr} {L : Addr} {h₀ : Heap} {m : Str → Option Value} {ox : Obj} {od : Option Obj} {b tb : Value}
theorem ifBound_ne {M : Model} {args : List Value} {Q : Option Value → Shared → Prop} (kin : K.In s.heap) (I : PySem.W.InstAt s.heap x ox C od) (hs : PySem.W.findIn K (.ref C) "__ne__" = some (some (.builtin "object.__ne__")))
    (h : wpAny M A (call (.builtin "object.__ne__") (.ref x :: args)) (fun v => Q (some v)) E s) : wpAny M A (callSpecialIfBound? (.ref x) "__ne__" args) Q E s := by
  simp only [callSpecialIfBound?, bindSpecialIfBound?]
  refine wpAny_holding (wpAny_bind (wpAny_bind (wpAny_bind (I.type.here ((PySem.W.looks_findIn kin hs).here ?_)))))
  refine wpAny_bind (wpAny_askSetting (wpAny_ite ?_))
  have fin : wpAny M A (call (.builtin "object.__ne__") ([.ref x] ++ args) >>= fun v => pure (some v)) Q E s := wpAny_bind (wpAny_mono h (fun v s' h' => wpAny_pure h') fun _ _ h' => h')
  have hb : bindSpecial (.builtin "object.__ne__") (.ref x) = pure (.builtin "object.__ne__", [.ref x]) := PySem.F.slot_object_ne.bind _
  split
  · exact wpAny_bind (wpAny_of_eq hb (wpAny_pure (by exact fin)))
  · exact wpAny_tryCatch (wpAny_bind (wpAny_of_eq hb (wpAny_pure (by exact fin))))
theorem objNe {Q : Fin → Shared → Prop} (hu : A.units < cLine) (kin : K.In s.heap) (I : PySem.W.InstAt s.heap x ox C od) (hs : PySem.W.findIn K (.ref C) "__eq__" = some (some (.ref f))) (hf : PySem.W.isFn K (.ref f) = true)
    (hc : wpAny (model prog w) A (call (.ref f) [.ref x, b]) (fun v s' => ∃ k, v = .bool k ∧ Q (.done (.ret (.bool (!k)))) s') E s) :
    wpAny (model prog w) A (Builtin.«object.__ne__» ⟨[.ref x, b], []⟩) Q E s := by
  unfold Builtin.«object.__ne__»
  repeat (first
    | with_reducible refine wpAny_cRoomFor hu ?_
    | (refine wpAny_bind (m := callSpecialIfBound? (.ref x) (Str.ofString "__eq__") [b])
        (PySem.W.ifBound_K kin I hs hf (wpAny_mono hc (fun r s' hr => by
          obtain ⟨k, rfl, hq⟩ := hr
          repeat (first | exact hq | exact wpAny_pure hq | exact wpAny_truthy_bool hq | (refine wpAny_bind (m := truthy (.bool _)) (wpAny_truthy_bool ?_)) | wp_step)) fun _ _ e => e)))
    | wp_step)
theorem cmp_ne {Q : Value → Shared → Prop} (hu : A.units + 1 < cLine) (X : K.In s.heap) (I : PySem.W.InstAt s.heap x ox C od) (hb : PySem.W.Looks (model prog w) s.heap (typeOf b) tb) (hn : PySem.W.notFirst K C tb = true)
    (hs : PySem.W.findIn K (.ref C) "__eq__" = some (some (.ref f))) (hf : PySem.W.isFn K (.ref f) = true) (hne : PySem.W.findIn K (.ref C) "__ne__" = some (some (.builtin "object.__ne__"))) (hsub : PySem.W.subIn K (.ref C) (.type "object") = some true)
    (h : wpAny (model prog w) A.in1 (call (.ref f) [.ref x, b]) (fun v s' => ∃ k, v = .bool k ∧ Q (.bool (!k)) s') E s) : wpAny (model prog w) A (richCompare .NotEq (.ref x) b) Q E s := by
  have one : wpAny (model prog w) A (tryCompare (.ref x) (cmpInfo .NotEq).2.1 b) (fun r s' => ∃ v, r = some v ∧ Q v s') E s := by
    unfold tryCompare
    show wpAny _ A (callSpecialIfBound? (.ref x) "__ne__" [b] >>= _) _ _ _
    have inst : PySem.W.Looks (model prog w) s.heap (isInstance (.ref x) (.type "object")) true := I.type.andThen (PySem.W.looks_subIn X hsub)
    refine wpAny_bind (ifBound_ne X I hne (wpAny_call (codeAny_call_builtin PySem.F.slot_object_ne.plain PySem.F.cmpEntry_ne (@PySem.W.check_slot (model prog w) _ _ s "object.__ne__" "object" "__ne__" (.ref x) [b] [] _ PySem.F.cmpKind_ne PySem.F.cmpSplit_ne inst (PySem.F.cmpArgs_ne _ _) ?_))))
    refine objNe (A := A.in1) hu X I hs hf (wpAny_mono h (fun v s' hv => ?_) fun _ _ e => e)
    obtain ⟨k, rfl, q⟩ := hv
    refine ⟨k, rfl, ?_⟩
    first | exact wpAny_pure ⟨_, rfl, q⟩ | exact ⟨_, rfl, q⟩
  unfold richCompare
  simp only [oneThing_ref]
  refine wpAny_holding (wpAny_bind (wpAny_cRoomFor (Nat.lt_of_succ_lt hu) ?_))
  refine wpAny_bind (I.type.here (wpAny_bind (hb.here ?_)))
  split
  · rename_i q
    have e : PySem.W.subIn K tb (.ref C) = some false := by
      rcases Bool.or_eq_true_iff.mp hn with e | e
      · rw [beq_iff_eq.mp e] at q; simp at q
      · exact beq_iff_eq.mp e
    refine wpAny_bind ((PySem.W.looks_subIn X e).here ?_)
    simp only [Bool.false_eq_true, if_false]
    refine wpAny_bind (wpAny_mono one (fun r s' z => ?_) fun _ _ e => e)
    obtain ⟨v, rfl, hq⟩ := z
    exact wpAny_pure hq
  · refine wpAny_bind (wpAny_pure ?_)
    simp only [Bool.false_eq_true, if_false]
    refine wpAny_bind (wpAny_mono one (fun r s' z => ?_) fun _ _ e => e)
    obtain ⟨v, rfl, hq⟩ := z
    exact wpAny_pure hq
end
section
variable {X : Cx} {F : Fm} {W : WX} {Φ Φ' H H' : Hp} {σ : L2.St} {τ τ' : List S} {tm : Env1} {a b : Expr} {ma mb : M S} {pos : Pos} {k n : Nat} {ta tb : L2.TE}
def opN (neg : Bool) : CmpOp := if neg = true then .NotEq else .Eq
def rOwn (X : Cx) (W : WX) (k : Nat) (neg : Bool) (σ : L2.St) : R2 := fun x y H Q => ∃ a C dx fs f fd ps sp w, x = .ref a ∧ H a = some (.ins C dx fs) ∧ PySem.W.findIn X.K (.ref C) "__eq__" = some (some (.ref f)) ∧ PySem.W.isFn X.K (.ref f) = true ∧
  PySem.W.findIn X.K (.ref C) "__ne__" = some (some (.builtin "object.__ne__")) ∧ PySem.W.subIn X.K (.ref C) (.type "object") = some true ∧ TyE X.K H y w ∧ PySem.W.notFirst X.K C w = true ∧
  FnOk X.prog X.w X.K X.mg X.base (L2.CX X.prog X.w) k f fd ps sp ∧ Binds X.K fd ps [] ∧ sp [x, y] H (fun v H' => ∃ q, v = .bl q ∧ Q (.bl (neg ^^ q)) H') (WE W σ)
theorem run_own {neg : Bool} {pins : List (Addr × Obj)} {s : Shared} {x y : V} {v u : Value} {Q : VK} (hr : Room (k + 1) X.A) (tk : Takes X W) (I : Inv X pins σ H s) (rx : RelV x v) (ry : RelV y u) (h : rOwn X W k neg σ x y H Q) : wpAny (model X.prog X.w) X.A (compareOp (opN neg) v u) (EP X pins σ Q) X.xe s := by
  obtain ⟨a, C, dx, fs, f, fd, ps, sp, w, rfl, ha, h1, h2, h3, h4, ty, nf, Ok, bd, q⟩ := h
  cases rx
  obtain ⟨Pz, kit, kp, _⟩ := kit_ofE I ry ty
  have tyL := kit.ty (model X.prog X.w) s.heap I.kIn kp
  obtain ⟨mA, J, _⟩ := ins_get I.hok ha
  obtain ⟨od, J, _⟩ := J.look
  obtain ⟨m, hF⟩ := I.fr
  have hl : [V.ref a, y].length = ps.length := Ok.len _ _ _ _ q
  have r2 : Vals [V.ref a, y] [Value.ref a, u] := .cons rfl (.cons ry .nil)
  have e0 : ∀ {A : Around}, A.frames = X.A.frames → Env0 X.prog X.w X.K X.mg X.base A X.stack s H := fun {A} hf => by
    have e := I.env0
    exact ⟨by rw [hf]; exact e.frames, e.mod, e.bs, e.bsz, e.funs, e.frf, e.hok, e.bare⟩
  have go : ∀ {A : Around}, Room k A → A.frames = X.A.frames → wpAny (model X.prog X.w) A (call (.ref f) [.ref a, u]) (fun r s' => ∃ q, r = .bool q ∧ ∃ H', Inv X pins σ H' s' ∧ Q (.bl (neg ^^ q)) H') X.xe s := fun {A} ra hf => by
    refine wpAny_call (codeAny_mono (Ok.run A X.stack s H ⟨[.ref a, u], []⟩ [.ref a, u] [.ref a, y] _ (WE W σ) ra (e0 hf) (by
      have := bd s [.ref a, u] I.kIn (by simpa using hl)
      simpa using this) r2 q) fun r s' hq => ?_)
    cases r with
    | error e => exact passAt tk σ pins H s e s' I hq
    | ok fl =>
      cases fl with
      | ret w =>
        obtain ⟨z, H', I', rz, qq, ez, qz⟩ := I.after hq
        subst ez
        cases rz
        exact ⟨qq, rfl, H', I', qz⟩
      | next => exact False.elim hq
      | brk => exact False.elim hq
      | cont => exact False.elim hq
  cases neg with
  | false =>
    show wpAny (model X.prog X.w) X.A (richCompare .Eq (.ref a) u) (EP X pins σ Q) X.xe s
    refine PySem.W.cmp_K (op := .Eq) (tb := w) hr.units0 hF I.ok.mod.kin J tyL nf h1 h2 (wpAny_mono (go (hr.mono (Nat.le_succ _)) rfl) (fun r s' z => ?_) fun _ _ e => e)
    obtain ⟨q, rfl, H', I', qz⟩ := z
    exact ⟨.bl q, H', I', rfl, by simpa using qz⟩
  | true =>
    show wpAny (model X.prog X.w) X.A (richCompare .NotEq (.ref a) u) (EP X pins σ Q) X.xe s
    refine cmp_ne (tb := w) (by have := hr.un; omega) I.kIn J tyL nf h1 h2 h3 h4 (wpAny_mono (go hr.in1 rfl) (fun r s' z => ?_) fun _ _ e => e)
    obtain ⟨q, rfl, H', I', qz⟩ := z
    exact ⟨q, rfl, .bl (!q), H', I', rfl, by simpa using qz⟩
theorem pe_own {neg : Bool} {op : CmpOp} (ho : op = opN neg) (hr : Room (k + 1) X.A) (tk : Takes X W) (ha : PE X a ta) (hb : PE X b tb) (hm : behindInMarks op b = false) : PE X (.Compare a [op] [b] pos) (fun σ H Q => ta σ H fun x H1 => tb σ H1 fun y H2 => rOwn X W k neg σ x y H2 Q) := by
  subst ho
  refine ⟨fun pins s σ H Q I h => ?_⟩
  exact wpAny_Compare1 (binT ha hb I h fun v u s2 x y H2 I2 rx ry q => run_own hr tk I2 rx ry q) hm
theorem pt_own {neg : Bool} {op : CmpOp} (ho : op = opN neg) (hr : Room (k + 1) X.A) (tk : Takes X W) (ha : PE X a ta) (hb : PE X b tb) (hm : behindInMarks op b = false) : PT X (.Compare a [op] [b] pos) (tTest fun σ H Q => ta σ H fun x H1 => tb σ H1 fun y H2 => rOwn X W k neg σ x y H2 Q) := by
  subst ho
  refine ⟨fun pins s σ H Q I h => ?_⟩
  refine wpAny_isTrue_Compare1 (thn (ha.run pins s σ H _ I h) fun v s1 ⟨x, H1, I1, r1, q1⟩ => thn (hb.run pins s1 σ H1 _ I1 q1) fun u s2 ⟨y, H2, I2, r2, q2⟩ =>
    thn (run_own hr tk I2 r1 r2 q2) fun c s3 ⟨z, H3, I3, r3, k, e, q3⟩ => ?_) hm
  subst e
  cases r3
  exact wpAny_truthy_bool ⟨H3, I3, q3⟩
/-- classes with an own __eq__ -/
structure EqOk (P : Program) (w : World) (K : PySem.W.Frag) (mg : Str → Option Value) (base : Heap) (G : Gx) (k : Nat) (tab : Str → Option Fn) (okT : Str → Tg → Bool) (tb : IsT) : Prop where
  ex : ∀ c mf, tab c = some mf → ∀ C, G.cls c = some C → ∃ f fd ps, PySem.W.findIn K (.ref C) "__eq__" = some (some (.ref f)) ∧ PySem.W.isFn K (.ref f) = true ∧ PySem.W.findIn K (.ref C) "__ne__" = some (some (.builtin "object.__ne__")) ∧
    PySem.W.subIn K (.ref C) (.type "object") = some true ∧ FnOk P w K mg base (L2.CX P w) k f fd ps (spM G 2 mf) ∧ Binds K fd ps [] ∧ ∀ t w, okT c t = true → TgV G K t w → PySem.W.notFirst K C w = true
  is : ∀ c t, okT c t = true → ∃ u b, tb t u = some b
  ok : IsOk K G tb
  pr : ∀ c mf, tab c = some mf → Proper mf
  ar : ∀ c mf, tab c = some mf → ∀ ss, mf ss ≠ .stuck → ss.length = 2
def eOwn (neg : Bool) (tab : Str → Option Fn) (okT : Str → Tg → Bool) (ma mb : M S) : M S := M.bnd ma fun s1 => M.bnd mb fun s2 => M.bnd (take s2) fun d2 => M.bnd (take s1) fun d1 => fun τ => match d1 with
  | .ins c fs => (match tab c, tagOf d2 with
    | some mf, some t => if okT c t = true then (match mf ([.ins c fs, d2].map S.val) with
      | .ok (.val (.bl q), _) => .ok (.val (.bl (neg ^^ q)), τ)
      | .exc cc gs _ => .exc cc gs τ
      | _ => .stuck) else .stuck
    | _, _ => .stuck)
  | _ => .stuck
theorem t_own {neg : Bool} {tab : Str → Option Fn} {okT : Str → Tg → Bool} {tb : IsT} {Q : VK} (hK : X.K = F.G.K) (eo : EqOk X.prog X.w X.K X.mg X.base F.G k tab okT tb) (h : TEm F W (eOwn neg tab okT ma mb) σ H Q) : TEm F W ma σ H fun x H1 => TEm F W mb σ H1 fun y H2 => rOwn X W k neg σ x y H2 Q := by
  obtain ⟨Φ, τ, tm, rl, h⟩ := h
  refine te_go rl h.bnd fun s1 τ1 v H1 Φ1 p1 r1 => te_go r1 p1.bnd fun s2 τ2 u H2 Φ2 p2 r2 => ?_
  obtain ⟨d2, τ3, e1, p3⟩ := take_cases p2.bnd
  obtain ⟨Φ3, r3⟩ := Rl.taken r2 e1
  have r3' : Rl F Φ3 H2 σ τ3 ((some v, s1) :: (some u, .val d2) :: tm) := r3.air (.perm (List.Perm.swap _ _ _))
  obtain ⟨d1, τ4, e2, p4⟩ := take_cases p3.bnd
  obtain ⟨Φ4, r4⟩ := Rl.taken r3' e2
  obtain ⟨_, ev, f1⟩ := r4.hd
  cases ev
  obtain ⟨_, ev, f2⟩ := r4.tl.hd
  cases ev
  cases d1 with
  | ins c fs =>
    simp only at p4
    cases et : tab c with
    | none => simp only [et] at p4; exact p4.elim
    | some mf =>
      cases eg : tagOf d2 with
      | none => simp only [et, eg] at p4; exact p4.elim
      | some t =>
        simp only [et, eg] at p4
        split at p4
        · rename_i hok
          have f1' := f1
          cases f1 with
          | ins q1 g q3 =>
            obtain ⟨f, fd, ps, c1, c2, c3, c4, Ok, bd, nf⟩ := eo.ex c mf et _ g
            obtain ⟨w, ty, tg⟩ := ty_v (X := X) eo.ok hK r4.le (.inl f2) eg (eo.is c t hok)
            refine ⟨_, _, _, _, f, fd, ps, _, w, rfl, r4.le _ _ q1, c1, c2, c3, c4, ty, nf t w hok tg, Ok, bd, ?_⟩
            refine sp_plain (ds := [.ins c fs, d2]) (eo.pr c mf et) (eo.ar c mf et) r4.tl.tl (.cons f1' (.cons f2 .nil)) ?_
            cases hm : mf ([.ins c fs, d2].map S.val) with
            | stuck => rw [hm] at p4; exact p4.elim
            | exc cc gs out => rw [hm] at p4; exact p4
            | ok pr =>
              obtain ⟨r', out⟩ := pr
              rw [hm] at p4
              cases r' with
              | val d =>
                cases d with
                | bl q =>
                  intro v' H' Φ' r5
                  obtain ⟨_, ev, fv⟩ := r5.hd
                  cases ev
                  cases fv
                  exact ⟨q, rfl, p4 _ _ _ (r5.tl.val (.bl _))⟩
                | _ => exact p4.elim
              | _ => exact p4.elim
        · exact p4.elim
  | _ => exact p4.elim
theorem em_own {neg : Bool} {op : CmpOp} {tab : Str → Option Fn} {okT : Str → Tg → Bool} {tb : IsT} (ft : Fits X F W) (hr : Room (k + 1) X.A) (eo : EqOk X.prog X.w X.K X.mg X.base F.G k tab okT tb) (ha : EM X F W a ma) (hb : EM X F W b mb) (ho : op = opN neg := by rfl) (hm : behindInMarks op b = false := by first | exact nomark b | with_unfolding_all rfl) :
    EM X F W (.Compare a [op] [b] pos) (eOwn neg tab okT ma mb) := PE.imp (pe_own ho hr ft.tk ha hb hm) fun σ H Q h => t_own ft.K eo h
theorem bm_own {neg : Bool} {op : CmpOp} {tab : Str → Option Fn} {okT : Str → Tg → Bool} {tb : IsT} (ft : Fits X F W) (hr : Room (k + 1) X.A) (eo : EqOk X.prog X.w X.K X.mg X.base F.G k tab okT tb) (ha : EM X F W a ma) (hb : EM X F W b mb) (ho : op = opN neg := by rfl) (hm : behindInMarks op b = false := by first | exact nomark b | with_unfolding_all rfl) :
    BM X F W (.Compare a [op] [b] pos) (bVal (eOwn neg tab okT ma mb)) := PT.imp (pt_own ho hr ft.tk ha hb hm) fun σ H Q h => by
  obtain ⟨Φ, τ, tm, rl, h⟩ := h
  refine t_own ft.K eo ⟨Φ, τ, tm, rl, (Wp.bnd h).mono fun s τ' p v H' Φ' r' => ?_⟩
  obtain ⟨q, e, p2⟩ := Wp.of p
  have := one_bl r'.hd e
  exact ⟨q, this, p2 H' Φ' r'.tl⟩
end
section
variable {fa : List He.Fa} {fn : List He.DefD} {tq : List Tq} {exs : PySem.W.Frag → List Bool} {P : Program} {w : World} {K : PySem.W.Frag} {mg : Str → Option Value} {base : Heap} {k n : Nat} {mf : Fn} {c f m : Str} {ps : List Str} {fd : FuncData}
def eqB (c : Str) (ts : List Tg) (K : PySem.W.Frag) : Bool := (He.Fa.glo c).ok K && (He.eqO (PySem.W.findIn K (.ref (He.ga K c)) "__eq__") (some (some (.ref (He.fAd K (c, some "__eq__"))))) && (PySem.W.isFn K (.ref (He.fAd K (c, some "__eq__"))) &&
  (He.eqO (PySem.W.findIn K (.ref (He.ga K c)) "__ne__") (some (some (.builtin "object.__ne__"))) && (decide (PySem.W.subIn K (.ref (He.ga K c)) (.type "object") = some true) && ts.all fun t => tgB K t && PySem.W.notFirst K (He.ga K c) (tgV K t)))))
def okTs (ts : List Tg) (_ : Str) (t : Tg) : Bool := ts.any fun z => tgEq z t
def Eq1 (P : Program) (w : World) (K : PySem.W.Frag) (mg : Str → Option Value) (base : Heap) (G : Gx) (k : Nat) (ts : List Tg) (c : Str) (mf : Fn) : Prop :=
  (∀ C, G.cls c = some C → ∃ f fd ps, PySem.W.findIn K (.ref C) "__eq__" = some (some (.ref f)) ∧ PySem.W.isFn K (.ref f) = true ∧ PySem.W.findIn K (.ref C) "__ne__" = some (some (.builtin "object.__ne__")) ∧
    PySem.W.subIn K (.ref C) (.type "object") = some true ∧ FnOk P w K mg base (L2.CX P w) k f fd ps (spM G 2 mf) ∧ Binds K fd ps [] ∧ ∀ t w, okTs ts c t = true → TgV G K t w → PySem.W.notFirst K C w = true) ∧ Proper mf ∧ ∀ ss, mf ss ≠ .stuck → ss.length = 2
theorem eq1 {ts : List Tg} (hd : HdOk fa fn tq exs K mg base) (h : eqB c ts K = true) (ok : FnOk P w K mg base (L2.CX P w) k (He.fAd K (c, some "__eq__")) fd ps (spM (gxOf tq K mg) 2 mf)) (b : Binds K fd ps []) (pr : Proper mf) (ar : ∀ ss, mf ss ≠ .stuck → ss.length = 2) : Eq1 P w K mg base (gxOf tq K mg) k ts c mf := by
  obtain ⟨h1, h⟩ := He.ba h
  obtain ⟨h2, h⟩ := He.ba h
  obtain ⟨h3, h⟩ := He.ba h
  obtain ⟨h4, h⟩ := He.ba h
  obtain ⟨h5, h6⟩ := He.ba h
  refine ⟨fun C g => ?_, pr, ar⟩
  rw [hd.gat h1 g]
  refine ⟨_, fd, ps, He.eqO_ok h2, h3, He.eqO_ok h4, of_decide_eq_true h5, ok, b, fun t w ht tg => ?_⟩
  obtain ⟨z, hz, ez⟩ := List.any_eq_true.mp ht
  have := tgEq_ok ez
  subst this
  obtain ⟨q1, q2⟩ := He.ba (List.all_eq_true.mp h6 _ hz)
  have e : w = tgV K z := by
    cases tg with
    | bt n => rfl
    | ins g => exact congrArg Value.ref (hd.gat (He.ba q1).1 g)
    | exc g => exact congrArg Value.ref (hd.gat (He.ba q1).1 g)
  rw [e]
  exact q2
theorem Eq1.up {j : Nat} {G : Gx} {ts : List Tg} (h : Eq1 P w K mg base G j ts c mf) (le : j ≤ k) : Eq1 P w K mg base G k ts c mf := ⟨fun C g => by
  obtain ⟨f, fd, ps, a, b, c1, d1, o, r⟩ := h.1 C g
  exact ⟨f, fd, ps, a, b, c1, d1, o.mono le, r⟩, h.2⟩
theorem eqOk {G : Gx} {l : List (Str × Fn)} {ts : List Tg} {tb : IsT} (ok : IsOk K G tb) (is : (ts.all fun t => [Cl.bt "int", .bt "list", .bt "tuple"].any fun u => (tb t u).isSome) = true) (h : ∀ e ∈ l, Eq1 P w K mg base G k ts e.1 e.2) : EqOk P w K mg base G k (fun x => l.lookup x) (okTs ts) tb :=
  ⟨fun c mf e C g => (h _ (PySem.mem_of_lookup e)).1 C g, fun c t ht => by
    obtain ⟨z, hz, ez⟩ := List.any_eq_true.mp ht
    have := tgEq_ok ez
    subst this
    obtain ⟨u, _, hu⟩ := List.any_eq_true.mp (List.all_eq_true.mp is _ hz)
    obtain ⟨b, hb⟩ := Option.isSome_iff_exists.mp hu
    exact ⟨u, b, hb⟩, ok, fun c mf e => (h _ (PySem.mem_of_lookup e)).2.1, fun c mf e => (h _ (PySem.mem_of_lookup e)).2.2⟩
end
end Mi

/-! ### M32: list(zip(x, y)), the call; max and min of two -/
namespace Mi
open PySem PySem.Spec PyProof.Rows L2
theorem nolen_zip : typeLookup (.type "zip") "__len__" = pure none := by rw [typeLookup_type, builtinLookup_eq_fast]; kernel_rfl
theorem nohint_zip : typeLookup (.type "zip") "__length_hint__" = pure none := by rw [typeLookup_type, builtinLookup_eq_fast]; kernel_rfl
section
variable {X : Cx} {pins : List (Addr × Obj)} {σ : L2.St} {H : Hp} {s : Shared}
/-- a list that was laid is tracked from now on -/
theorem trackL {a : Addr} {xs : List V} {its : Array Value} {c : Nat} (I : Inv X pins σ H s) (he : s.heap.get? a = some { cls := .type "list", dict := none, data := .seq its c, slots := #[] }) (r : Vals xs its.toList) (hl : xs.length ≤ sizeLine) (hn : H a = none) (n0 : X.s_0.heap.get? a = none) (nL : a ≠ X.env.locals) (nC : ∀ y c, X.env.cells.lookup y = some c → c ≠ a)
    (nP : ∀ p ∈ X.pn ++ pins, p.1 ≠ a) : Inv X pins σ (upd H a (.lst xs)) s := by
  have ne : ∀ {b : Addr} {u : HO}, H b = some u → b ≠ a := fun {b u} q => ne_of_none q hn
  refine ⟨I.ok, I.os, I.bare, ⟨I.base.keep, I.base.slot, fun b o e n hx => ?_, I.base.there, fun b xs e => ?_, fun b o u e => ?_, fun b ps e => ?_⟩, I.loc, I.cell, ?_, fun y c e => ?_, fun p hp => ?_, fun b o e => ?_, I.len⟩
  · rw [upd_ne (fun z => by rw [z, n0] at e; cases e)]
    exact I.base.free b o e n hx
  · have q := I.base.tups b xs e
    rw [upd_ne (ne q)]
    exact q
  · have q := I.base.frzs b o u e
    rw [upd_ne (ne q)]
    exact q
  · obtain ⟨more, q⟩ := I.base.tbls b ps e
    exact ⟨more, by rw [upd_ne (ne q)]; exact q⟩
  · rw [upd_ne (Ne.symm nL)]
    exact I.free
  · rw [upd_ne (nC y c e)]
    exact I.freeC y c e
  · obtain ⟨e1, e2, e3, e4, e5⟩ := I.pin p hp
    exact ⟨e1, by rw [upd_ne (nP p hp)]; exact e2, e3, e4, e5⟩
  · by_cases hb : b = a
    · subst hb
      rw [upd_same] at e
      cases e
      exact ⟨hl, its.toList, c, r, by rw [Array.toArray_toList]; exact he⟩
    · rw [upd_ne hb] at e
      exact (I.hok b o e).stay (fun c v _ z => z) (fun c hc => by rw [upd_ne (ne hc)]; exact hc) (fun c xs hc => by rw [upd_ne (ne hc)]; exact hc)
theorem call_list_zip {A : Around} {E : Value → Shared → Prop} {z TI TO i1 i2 a b : Addr} {xs ys : List V} {Q : VK} (hh : A.handled = none) (D : ZipApart z TI TO i1 i2 a b) (I : Inv X pins σ H s) (hf : ∀ q ∈ [z, TI, TO, i1, i2], FpOk X pins H q) (ha : SqT X.K H a xs) (hb : SqT X.K H b ys) (hl : xs.length = ys.length) (hle : xs.length ≤ sizeLine)
    (hz : IsZip s.heap z TI TO .none) (hTI : IsPair s.heap TI (.ref i1) (.ref i2)) (hTO : IsPair s.heap TO .none .none) (h1 : s.heap.IsTupleIter i1 a 0) (h2 : s.heap.IsTupleIter i2 b 0)
    (q : ∀ H' vs p, Chain H xs ys H' vs → H' p = none → Q (.ref p) (upd H' p (.lst vs))) : wpAny (model X.prog X.w) A (call (.type "list") [.ref z]) (EP X pins σ Q) E s := by
  have lz : ∀ q ∈ [z, TI, TO, i1, i2], q < s.heap.objs.size := fun q hq => by
    have e' : q = z ∨ q = TI ∨ q = TO ∨ q = i1 ∨ q = i2 := by simpa using hq
    rcases e' with e | e | e | e | e
    · rw [e]; exact Heap.lt_size hz
    · rw [e]; exact Heap.lt_size hTI
    · rw [e]; exact Heap.lt_size hTO
    · rw [e]; obtain ⟨_, e1, _⟩ := h1; exact Heap.lt_size e1
    · rw [e]; obtain ⟨_, e1, _⟩ := h2; exact Heap.lt_size e1
  have hS5 : s.heap.objs.size ∉ [z, TI, TO, i1, i2] := fun hm => Nat.lt_irrefl _ (lz _ hm)
  have hSz : s.heap.objs.size ≠ z := fun e => hS5 (by rw [e]; simp)
  refine callType_codes (Q₁ := fun obj s₁ => obj = .ref s.heap.objs.size ∧ s₁ = { s with heap := s.heap.push { cls := .type "list", data := .seq #[] } }) F.called_list (F.typeCall_list_1 _) F.entry_list_init
    (code_list_new _ ⟨rfl, rfl⟩) fun obj s₁ h₁ => ?_
  obtain ⟨rfl, rfl⟩ := h₁
  have hS : (s.heap.push { cls := .type "list", data := .seq #[] }).get? s.heap.objs.size = some { cls := .type "list", data := .seq #[] } := Heap.get?_push_size _ rfl
  refine ⟨⟨_, hS, rfl⟩, F.args_list_init_2 _ _, ?_⟩
  show wpAny _ A.in1.in1 (do let old ← Builtin.List.listItems (.ref s.heap.objs.size); Builtin.List.listUpdate (.ref s.heap.objs.size) (fun _ => #[]); letGo old.toList.reverse; Builtin.List.listExtendWith (.ref s.heap.objs.size) (.ref z) .none) _ _ _
  refine wpAny_bind ?_
  unfold Builtin.List.listItems
  refine wpAny_bind (wpAny_seqItems hS rfl (wpAny_pure ?_))
  show wpAny _ A.in1.in1 (updateSeq s.heap.objs.size (fun _ => #[]) >>= fun _ => letGo (#[] : Array Value).toList.reverse >>= fun _ => Builtin.List.listExtendWith (.ref s.heap.objs.size) (.ref z) .none) _ _ _
  refine wpAny_bind (wpAny_updateSeq hS rfl ?_)
  have hS2 := Heap.get?_update_self (Obj.mapSeq (fun _ => (#[] : Array Value))) hS rfl
  refine wpAny_bind (wpAny_letGo ?_)
  unfold Builtin.List.listExtendWith
  have up : ∀ (h : Heap) (f : Obj → Obj), (∀ b o, s.heap.get? b = some o → h.get? b = some o) → ∀ b o, s.heap.get? b = some o → (h.update s.heap.objs.size f).get? b = some o := fun h f q b o e =>
    (Heap.get?_update_other _ _ (Ne.symm (Nat.ne_of_lt (Heap.lt_size e)))).trans (q b o e)
  have k1 : ∀ b o, s.heap.get? b = some o → (s.heap.push { cls := .type "list", data := .seq #[] }).get? b = some o := fun b o e => Heap.get?_push_of_some _ e
  have k2 := up _ (Obj.mapSeq (fun _ => (#[] : Array Value))) k1
  refine wpAny_bind (wpAny_typeOf (s := { s with heap := _ }) (T := "zip") ⟨_, k2 _ _ hz, rfl⟩ ?_)
  have g1 : Builtin.List.listSameRef (.ref s.heap.objs.size) (.ref z) = false := by simp [Builtin.List.listSameRef, hSz]
  have g2 : (Value.type "zip" == Value.type "list") = false := by decide
  have g3 : (Value.type "zip" == Value.type "tuple") = false := by decide
  simp only [g1, g2, g3, Bool.or_false, Bool.false_eq_true, if_false]
  refine wpAny_bind (wpAny_pyIter_zip (s := { s with heap := _ }) (k2 _ _ hz) ?_)
  refine wpAny_bind (wpAny_holding ?_)
  unfold Builtin.List.listLengthHint
  refine wpAny_bind (wpAny_specialOf (s := { s with heap := _ }) (T := "zip") ⟨_, k2 _ _ hz, rfl⟩ nolen_zip ?_)
  show wpAny _ A.in1.in1 (specialOf (Value.ref z) (Str.ofString "__length_hint__") >>= _) _ _ _
  refine wpAny_bind (wpAny_specialOf (s := { s with heap := _ }) (T := "zip") ⟨_, k2 _ _ hz, rfl⟩ nohint_zip ?_)
  refine wpAny_pure ?_
  show wpAny _ A.in1.in1 (rule "list.extend.makes-room" >>= fun _ => Builtin.List.listTouch (.ref s.heap.objs.size) >>= fun _ =>
    again (.builtin "list.extend.loop" ⟨[.ref s.heap.objs.size, .ref z, .none], []⟩)) _ _ _
  refine wpAny_bind (wpAny_rule ?_)
  refine wpAny_bind ?_
  show wpAny _ A.in1.in1 (updateSeq s.heap.objs.size (·.push .none) >>= fun _ => updateSeq s.heap.objs.size (·.pop)) _ _ _
  refine wpAny_bind (wpAny_updateSeq hS2 rfl ?_)
  have hS3 := Heap.get?_update_self (Obj.mapSeq (·.push Value.none)) hS2 rfl
  refine wpAny_updateSeq (hz := by seq_fits) hS3 rfl ?_
  have hS4 := Heap.get?_update_self (Obj.mapSeq (·.pop)) hS3 rfl
  have k4 := up _ (Obj.mapSeq (·.pop)) (up _ (Obj.mapSeq (·.push Value.none)) k2)
  refine wpAny_pure ⟨plainId_quiet F.plain_extend_loop _, ?_⟩
  obtain ⟨p1, _⟩ : ∃ o, s.heap.get? a = some o := by
    obtain ⟨its, rv, p, _⟩ := I.tuple ha
    obtain ⟨o, ho, _⟩ := p
    exact ⟨o, ho⟩
  have hSa : s.heap.objs.size ≠ a := fun e => by
    obtain ⟨its, rv, p, _⟩ := I.tuple ha
    obtain ⟨o, ho, _⟩ := p
    exact absurd (Heap.lt_size ho) (by rw [← e]; exact Nat.lt_irrefl _)
  have hSb : s.heap.objs.size ≠ b := fun e => by
    obtain ⟨its, rv, p, _⟩ := I.tuple hb
    obtain ⟨o, ho, _⟩ := p
    exact absurd (Heap.lt_size ho) (by rw [← e]; exact Nat.lt_irrefl _)
  have I4 : Inv X pins σ H { s with heap := _ } := I.kept (t' := s.toks) k4
  have fS : FpOk X pins H s.heap.objs.size := I.fpOk (Nat.le_refl _) (I.hok.fresh (Nat.le_refl _))
  refine zip_loop (A := A.in1) hh D hS5 ⟨hSa, hSb⟩ xs ys 0 [] _ H #[] _ rfl rfl hl I4 (fun q hq => ?_) ha hb (.inl ⟨k4 _ _ hz, _, _, k4 _ _ hTO⟩) ⟨_, k4 _ _ hTO⟩ (k4 _ _ hTI) (h1.at fun o e => k4 _ o e) (h2.at fun o e => k4 _ o e) hS4 .nil (by simpa using hle) fun s' acc' c' H' vs ch I' hn' hS' hv' => ?_
  · have : q ∈ [z, TI, TO, i1, i2] ∨ q = s.heap.objs.size := by simpa [or_assoc] using hq
    rcases this with h | h
    · exact hf q h
    · rw [h]; exact fS
  · obtain ⟨f0, f1, f2, f3, f4, f5⟩ := fS
    have lv : vs.length = xs.length := by
      clear q I' hn' hS' hv' I4 I ha hb hf f0
      induction ch with
      | nil => rfl
      | cons _ _ ih => simp [ih (by simpa using hl) (by simp at hle; omega)]
    have n0 : X.s_0.heap.get? s.heap.objs.size = none := by
      cases e : X.s_0.heap.get? s.heap.objs.size with
      | none => rfl
      | some o => exact absurd (Nat.lt_of_lt_of_le (Heap.lt_size e) I.sz) (Nat.lt_irrefl _)
    refine ⟨rfl, .ref s.heap.objs.size, upd H' s.heap.objs.size (.lst vs), trackL I' hS' (by simpa using hv') (by rw [lv]; exact hle) hn' n0 f1 f4 f5, rfl, q H' vs _ ch hn'⟩
end
end Mi

/-! ### M33: list(zip(..)), max and min of two, errors with two fields, methods with defaults -/
namespace Mi
open PySem PySem.Spec PyProof.Rows L2
section
variable {X : Cx} {F : Fm} {W : WX} {Φ Φ' H H' : Hp} {σ : L2.St} {τ τ' : List S} {tm : Env1} {a b : Expr} {ma mb : M S} {ms : M (List S)} {pos p : Pos}
def tLz (K : PySem.W.Frag) (ta : L2.TA) : L2.TE := fun σ H Q => ta σ H fun vs H1 => ∃ a b xs ys, vs = [.ref a, .ref b] ∧ SqT K H1 a xs ∧ SqT K H1 b ys ∧ xs.length = ys.length ∧ xs.length ≤ sizeLine ∧ ∀ H' vs p, Chain H1 xs ys H' vs → H' p = none → Q (.ref p) (upd H' p (.lst vs))
theorem pe_listZip {e e2 : Expr} {ta : L2.TA} {p p2 pos pos2 : Pos} (hc : X.calm = true) (hg : Gl X "list") (hm : X.mg "list" = none) (hg2 : Gl X "zip") (hm2 : X.mg "zip" = none) (ha : PA X [e, e2] ta)
    (hs : starEach [e, e2] X.env = (false, eval e X.env) :: starEach [e2] X.env) (hpl : (backTo pos2 (starEach [e2] X.env)).any (·.1) = false)
    (na : starEach [Expr.Call (.Name "zip" p2) [e, e2] [] pos2] X.env = (false, eval (.Call (.Name "zip" p2) [e, e2] [] pos2) X.env) :: starEach [] X.env) :
    PE X (.Call (.Name "list" p) [.Call (.Name "zip" p2) [e, e2] [] pos2] [] pos) (tLz X.K ta) := by
  refine ⟨fun pins s σ H Q I h => ?_⟩
  have he : wpAny (model X.prog X.w) X.A (eval (.Call (.Name "zip" p2) [e, e2] [] pos2) X.env) (fun v s2 => ∃ H1 z TI TO i1 i2 a b xs ys, v = .ref z ∧ Inv X pins σ H1 s2 ∧ ZipApart z TI TO i1 i2 a b ∧ (∀ q ∈ [z, TI, TO, i1, i2], FpOk X pins H1 q) ∧ SqT X.K H1 a xs ∧ SqT X.K H1 b ys ∧ xs.length = ys.length ∧ xs.length ≤ sizeLine ∧
      IsZip s2.heap z TI TO .none ∧ IsPair s2.heap TI (.ref i1) (.ref i2) ∧ IsPair s2.heap TO .none .none ∧ s2.heap.IsTupleIter i1 a 0 ∧ s2.heap.IsTupleIter i2 b 0 ∧ ∀ H' vs p, Chain H1 xs ys H' vs → H' p = none → Q (.ref p) (upd H' p (.lst vs))) X.xe s := by
    refine Call_ (ld_blt I hg2 hm2 PyProof.Rows.boot_zip (PyProof.Rows.callWith_type1 (thn (ha.run pos2 pins s σ H _ I h) fun us s1 ⟨vs, H1, I1, r1, q1⟩ => ?_) hs hpl))
    obtain ⟨a, b, xs, ys, ex, ha, hb, hl, hle, q⟩ := q1
    subst ex
    cases r1 with
    | cons r rr =>
      cases rr with
      | cons r' rr =>
        cases rr
        cases r
        cases r'
        have fresh5 : ∀ c, c ∈ [s1.heap.objs.size + 4, s1.heap.objs.size + 2, s1.heap.objs.size + 3, s1.heap.objs.size, s1.heap.objs.size + 1] → FpOk X pins H1 c := fun c hcm => by
          have e' : c = s1.heap.objs.size + 4 ∨ c = s1.heap.objs.size + 2 ∨ c = s1.heap.objs.size + 3 ∨ c = s1.heap.objs.size ∨ c = s1.heap.objs.size + 1 := by simpa using hcm
          have hle : s1.heap.objs.size ≤ c := by
            rcases e' with z | z | z | z | z
            · rw [z]; exact Nat.le_add_right _ _
            · rw [z]; exact Nat.le_add_right _ _
            · rw [z]; exact Nat.le_add_right _ _
            · rw [z]; exact Nat.le_refl _
            · rw [z]; exact Nat.le_add_right _ _
          exact I1.fpOk hle (I1.hok.fresh hle)
        obtain ⟨its, rv, p1, _⟩ := I1.tuple ha
        obtain ⟨its2, rv2, p2, _⟩ := I1.tuple hb
        obtain ⟨o1, ho1, _⟩ := id p1
        obtain ⟨o2, ho2, _⟩ := id p2
        refine RZ.call_zipT (show s1.heap.IsTuple a its.toArray from p1) (show s1.heap.IsTuple b its2.toArray from p2) fun h' hz hTI hTO h1 h2 hsz hk => ?_
        have I2 : Inv X pins σ H1 { s1 with heap := h' } := I1.kept (t' := s1.toks) hk
        exact ⟨H1, s1.heap.objs.size + 4, _, _, _, _, a, b, xs, ys, rfl, I2, PySem.W.ktu_apart s1.heap.objs.size a b (Heap.lt_size ho1) (Heap.lt_size ho2), fresh5, ha, hb, hl, hle, hz, hTI, hTO, h1, h2, q⟩
  refine Call_ (ld_blt I hg hm boot_list (PyProof.Rows.callWith_type1 (args_cons (thn he fun x s1 ⟨H1, z, TI, TO, i1, i2, a, b, xs, ys, ex, I1, D, hf, ha, hb, hl, hle, hz, hTI, hTO, h1, h2, q⟩ => args_nil ?_) na) na))
  subst ex
  exact call_list_zip (I1.ok.hd hc) D I1 hf ha hb hl hle hz hTI hTO h1 h2 q
def zipTT : List D → Option S
  | [.tup xs, .tup ys] => if xs.length = ys.length ∧ xs.length < 1000 then some (.own (.lst (List.zipWith pairD xs ys))) else none
  | _ => none
def eListZip (ms : M (List S)) : M S := M.bnd ms fun ss => M.bnd (takeAll ss) fun ds => M.of (zipTT ds)
theorem zipTT_some {ds : List D} {s : S} (h : zipTT ds = some s) : ∃ xs ys, ds = [.tup xs, .tup ys] ∧ xs.length = ys.length ∧ xs.length < 1000 ∧ s = .own (.lst (List.zipWith pairD xs ys)) := by
  unfold zipTT at h
  split at h
  · split at h
    · rename_i q
      cases h
      exact ⟨_, _, rfl, q.1, q.2, rfl⟩
    · cases h
  · cases h
theorem chain_rl {vs ws zs : List V} {H2 : Hp} (c : Chain H vs ws H2 zs) : ∀ {Φ : Hp} {tm : Env1} {xs ys : List D}, FzL F.G Φ vs xs → FzL F.G Φ ws ys → Rl F Φ H σ τ tm → ∃ Φ2, Rl F Φ2 H2 σ τ tm ∧ FzL F.G Φ2 zs (List.zipWith pairD xs ys) := by
  induction c with
  | nil =>
    intro Φ tm xs ys h1 h2 r
    cases h1
    cases h2
    exact ⟨Φ, r, .nil⟩
  | @cons H H2 T x y vs ws zs hT c ih =>
    intro Φ tm xs ys h1 h2 r
    cases h1 with
    | cons f1 t1 =>
      cases h2 with
      | cons f2 t2 =>
        have fr : Φ T = none := r.fre hT
        have l := le_upd (o := HO.tup [x, y]) fr
        have r1 := r.tuple hT (.cons f1 (.cons f2 .nil))
        obtain ⟨Φ2, r2, q⟩ := ih (FzL.le l t1) (FzL.le l t2) r1
        obtain ⟨_, ev, fv⟩ := r2.hd
        cases ev
        exact ⟨Φ2, r2.tl, .cons fv q⟩
theorem em_listZip {e e2 : Expr} {p2 pos2 : Pos} (ft : Fits X F W) (hm : X.mg "list" = none) (hm2 : X.mg "zip" = none) (ha : LM X F W [e, e2] ms) (hg : Gl X "list" := by rfl) (hg2 : Gl X "zip" := by rfl)
    (hs : starEach [e, e2] X.env = (false, eval e X.env) :: starEach [e2] X.env := by rfl) (hpl : (backTo pos2 (starEach [e2] X.env)).any (·.1) = false := by rfl)
    (na : starEach [Expr.Call (.Name "zip" p2) [e, e2] [] pos2] X.env = (false, eval (.Call (.Name "zip" p2) [e, e2] [] pos2) X.env) :: starEach [] X.env := by rfl) :
    EM X F W (.Call (.Name "list" p) [.Call (.Name "zip" p2) [e, e2] [] pos2] [] pos) (eListZip ms) := PE.imp (pe_listZip ft.calm hg hm hg2 hm2 ha hs hpl na) fun σ H Q ⟨Φ, τ, tm, rl, h⟩ => tl_go rl h.bnd fun ss τ1 vs H1 Φ1 p1 l r1 => by
  obtain ⟨ds, τ2, e, p2⟩ := takeAll_cases (Wp.bnd p1)
  obtain ⟨Φ2, r2, q⟩ := Rl.takenAll l r1 e
  obtain ⟨s, e3, p3⟩ := Wp.of p2
  obtain ⟨xs, ys, rfl, l1, l2, rfl⟩ := zipTT_some e3
  cases q with
  | cons f1 t =>
    cases t with
    | cons f2 t =>
      cases t
      cases f1 with
      | tup s1 t1 =>
        cases f2 with
        | tup s2 t2 =>
          refine ⟨_, _, _, _, rfl, by rw [ft.K]; exact SqT.le s1 r2.le, by rw [ft.K]; exact SqT.le s2 r2.le, by rw [t1.length, t2.length]; exact l1, by rw [t1.length, sizeLine_eq]; omega, fun H' zs p c hp => ?_⟩
          obtain ⟨Φ3, r3, q3⟩ := chain_rl c t1 t2 r2
          exact p3 _ _ _ (r3.mine hp q3)
/-! max, min of two ints -/
def fMax2 : List D → Option S
  | [.int i, .int j] => some (.val (.int (if j > i then j else i)))
  | _ => none
def fMin2 : List D → Option S
  | [.int i, .int j] => some (.val (.int (if j < i then j else i)))
  | _ => none
theorem c_max2 : CaS F fMax2 (fun xs H Q => ∃ i j, xs = [.int i, .int j] ∧ Q (.int (if j > i then j else i)) H) := by
  intro Φ H σ τ tm vs ds s Q rl hd hf k
  unfold fMax2 at hf
  split at hf
  · cases hf
    obtain ⟨v, w, rfl, h1, h2⟩ := rd2 hd
    rw [h1.int, h2.int]
    exact ⟨_, _, rfl, k _ _ _ (rl.val (.int _))⟩
  · cases hf
theorem c_min2 : CaS F fMin2 (fun xs H Q => ∃ i j, xs = [.int i, .int j] ∧ Q (.int (if j < i then j else i)) H) := by
  intro Φ H σ τ tm vs ds s Q rl hd hf k
  unfold fMin2 at hf
  split at hf
  · cases hf
    obtain ⟨v, w, rfl, h1, h2⟩ := rd2 hd
    rw [h1.int, h2.int]
    exact ⟨_, _, rfl, k _ _ _ (rl.val (.int _))⟩
  · cases hf
theorem x_max2 (ft : Fits X F W) (hm : X.mg "max" = none) (ha : LM X F W [a, b] ms) (hg : Gl X "max" := by rfl) (he : starEach [a, b] X.env = (false, eval a X.env) :: starEach [b] X.env := by rfl) (hpl : (backTo pos (starEach [b] X.env)).any (·.1) = false := by rfl) : EM X F W (.Call (.Name "max" p) [a, b] [] pos) (eCB fMax2 ms) := em_callB (call_max2 ft.calm) c_max2 hm ha (by decide +kernel) hg (by decide) (by decide) he hpl
theorem x_min2 (ft : Fits X F W) (hm : X.mg "min" = none) (ha : LM X F W [a, b] ms) (hg : Gl X "min" := by rfl) (he : starEach [a, b] X.env = (false, eval a X.env) :: starEach [b] X.env := by rfl) (hpl : (backTo pos (starEach [b] X.env)).any (·.1) = false := by rfl) : EM X F W (.Call (.Name "min" p) [a, b] [] pos) (eCB fMin2 ms) := em_callB (call_min2 ft.calm) c_min2 hm ha (by decide +kernel) hg (by decide) (by decide) he hpl
end
/-- __init__(self, f, g): self.f = f; self.g = g -/
theorem init2 {P : Program} {w : World} {K : PySem.W.Frag} {mg : Str → Option Value} {base : Heap} {qual f g : Str} {params : Arguments} {scope : Scope} {fI : Addr} {fd : FuncData} {p1 p2 p3 p4 q1 q2 q3 q4 : Pos} (Fu : FunD K "__init__" qual params [.Assign [.Attribute (.Name "self" p1) f p2] (.Name f p3) p4, .Assign [.Attribute (.Name "self" q1) g q2] (.Name g q3) q4] scope [] [] fI fd) (Sc : FnScope ["self", f, g] ["self", f, g] scope)
    (d1 : (f == ("__debug__" : Str)) = false) (d2 : (f == ("__classdict__" : Str)) = false) (d3 : (g == ("__debug__" : Str)) = false) (d4 : (g == ("__classdict__" : Str)) = false) : FnOk P w K mg base (L2.CX P w) 1 fI fd ["self", f, g] (spExi K [f, g]) := by
  have vis : ∀ x ∈ (["self", f, g] : List Str), Vis scope x := fun x hx => by
    rcases Sc.par x hx with q | q
    · exact .inl q
    · exact .inr (.inl q)
  refine Fu.ok Sc (fun vs H Q E h => ?_) (fun cdv A outer s H vs Q E hr h => ⟨_, pss_cons (ps_ost (pe_var (i := 0) rfl (vis _ List.mem_cons_self) (by decide) (by decide)) (pe_var (i := 1) rfl (vis _ (List.mem_cons_of_mem _ List.mem_cons_self)) d1 d2)) (pss_one (ps_ost (pe_var (i := 0) rfl (vis _ List.mem_cons_self) (by decide) (by decide)) (pe_var (i := 2) rfl (vis _ (List.mem_cons_of_mem _ (List.mem_cons_of_mem _ List.mem_cons_self))) d3 d4))), ?_⟩)
  · obtain ⟨a, C, ws, rfl, hl, _⟩ := h
    simp [hl]
  · obtain ⟨a, C, ws, rfl, hl, _, T, nof, ea, go⟩ := h
    match ws, hl with
    | [y, y2], _ =>
      refine ⟨y, rfl, _, rfl, a, C, rfl, T, nof f List.mem_cons_self, .inl ⟨ea, fun dx n ne => ?_⟩⟩
      refine ⟨y2, rfl, _, rfl, a, C, rfl, T, nof g (List.mem_cons_of_mem _ List.mem_cons_self), .inr ⟨dx, [(f, y)], upd_same, by rw [upd_ne ne, upd_same], (by show 1 ≤ 900; decide), ?_⟩⟩
      have := go dx n ne
      have e : upd (upd (upd H dx (exd dx [(f, y)])) a (exo a C (some dx))) dx (exd dx [(g, y2), (f, y)]) = upd (upd H dx (exd dx [(g, y2), (f, y)])) a (exo a C (some dx)) := by
        funext b
        by_cases h1 : b = dx
        · subst h1
          rw [upd_same, upd_ne ne, upd_same]
        · rw [upd_ne h1]
          by_cases h2 : b = a
          · subst h2; rw [upd_same, upd_same]
          · rw [upd_ne h2, upd_ne h1, upd_ne h2, upd_ne h1]
      show Q .non _
      rw [e]
      exact this
end Mi

/-! ### M34: methods with defaults -/
namespace Mi
open PySem PySem.Spec PyProof.Rows L2
section
variable {X : Cx} {F : Fm} {W : WX} {Φ Φ' H H' : Hp} {σ : L2.St} {τ τ' : List S} {tm : Env1} {a o : Expr} {es : List Expr} {mo : M S} {pos : Pos} {ms : M (List S)} {k n : Nat} {mf : Fn} {ks : List Str} {ix : List Nat} {dd : List D}
/-- a call with the positional values us and the keywords' ws, its defaults its: what is bound -/
def BindD (K : PySem.W.Frag) (fd : FuncData) (ps : List Str) (np : Nat) (ks : List Str) (ix : List Nat) (its : List Value) : Prop := ∀ (s : Shared) (v : Value) (us ws : List Value), K.In s.heap → us.length = np → ws.length = ks.length → BindsTo s fd ⟨v :: us, ks.zip ws⟩ (ps.zip (v :: pick .none ix (us ++ ws ++ its)))
structure MetD (P : Program) (w : World) (K : PySem.W.Frag) (mg : Str → Option Value) (base : Heap) (G : Gx) (k : Nat) (m : Str) (n np : Nat) (ks : List Str) (ix : List Nat) (dd : List D) (tab : Str → Option Fn) : Prop where
  ex : ∀ c mf, tab c = some mf → ∀ C, G.cls c = some C → ∃ f fd ps its dvs, Cls K C ∧ Meth K C m f ∧ FnOk P w K mg base (L2.CX P w) k f fd ps (spM G n mf) ∧ BindD K fd ps np ks ix its ∧ Vals dvs its ∧ ∀ Φ, FzL G Φ dvs dd
  pr : ∀ c mf, tab c = some mf → Proper mf
  ar : ∀ c mf, tab c = some mf → ∀ ss, mf ss ≠ .stuck → ss.length = n
theorem run_bd {CX : CXT} {f : Addr} {fd : FuncData} {ps : List Str} {sp : Sp} {pins : List (Addr × Obj)} {s : Shared} {Q : VK} {v : V} {u : Value} {us ws its : List Value} {vs zs dvs : List V} {np : Nat} (Ok : FnOk X.prog X.w X.K X.mg X.base CX k f fd ps sp) (room : Room k X.A) (bd : BindD X.K fd ps np ks ix its) (out : PassesAt CX X σ (WE W σ)) (I : Inv X pins σ H s) (rv : RelV v u) (r : Vals vs us) (rz : Vals zs ws) (rd : Vals dvs its) (l1 : vs.length = np) (l2 : zs.length = ks.length)
    (q : sp (v :: pick .non ix (vs ++ zs ++ dvs)) H Q (WE W σ)) : wpAny (model X.prog X.w) X.A (call (.ref f) (u :: us) (ks.zip ws)) (EP X pins σ Q) X.xe s := by
  refine wpAny_call (codeAny_mono (Ok.run X.A X.stack s H ⟨u :: us, ks.zip ws⟩ (u :: pick .none ix (us ++ ws ++ its)) (v :: pick .non ix (vs ++ zs ++ dvs)) Q (WE W σ) room I.env0 (bd s _ us ws I.kIn (by rw [← r.length]; exact l1) (by rw [← rz.length]; exact l2)) (.cons rv (pick_vals ((r.append rz).append rd))) q) fun r s' hq => ?_)
  cases r with
  | error e => exact out pins H s e s' I hq
  | ok fl =>
    cases fl with
    | ret u => exact I.after hq
    | next => exact False.elim hq
    | brk => exact False.elim hq
    | cont => exact False.elim hq
/-- what o.m(..) asks, t its arguments -/
def tMD (X : Cx) (W : WX) (k np : Nat) (m : Str) (ks : List Str) (ix : List Nat) (kw : Bool) (ta : L2.TE) (t : L2.TA) : L2.TE := fun σ H Q => ta σ H fun x H1 => ∃ b C dx fs f fd ps sp its dvs, x = .ref b ∧ H1 b = some (.ins C dx fs) ∧ fs.lookup m = none ∧ Cls X.K C ∧ Meth X.K C m f ∧ FnOk X.prog X.w X.K X.mg X.base (L2.CX X.prog X.w) k f fd ps sp ∧
  BindD X.K fd ps np ks ix its ∧ Vals dvs its ∧ t σ H1 fun zs H2 => (if kw = true then np = 0 ∧ zs.length = ks.length else zs.length = np ∧ ks = []) ∧ sp (x :: pick .non ix (zs ++ dvs)) H2 Q (WE W σ)
theorem pe_methD {m : Str} {pl : Sem Bool} {apos : Pos} {ta : L2.TE} {t : L2.TA} {np : Nat} (he : PE X o ta) (room : Room k X.A) (tk : Takes X W) (ha : PA X (a :: es) t)
    (hst : starEach (a :: es) X.env = (false, eval a X.env) :: starEach es X.env) (hpl : (backTo pos (starEach es X.env)).any (·.1) = false)
    (ht : eval (.Call (.Attribute o m apos) (a :: es) [] pos) X.env = (do
      let ov ← eval o X.env
      standAt apos.atName
      let (f, first) ← holding [ov] (getMethod ov m pl)
      callWith pos f first (backTo pos (starEach (a :: es) X.env)) (backToKw pos (keywordEach [] X.env)))) :
    PE X (.Call (.Attribute o m apos) (a :: es) [] pos) (tMD X W k np m ks ix false ta t) := by
  refine ⟨fun pins s σ H Q In h => ?_⟩
  refine PySem.W.methodCall_KW (pl := pl) (thn (he.run pins s σ H _ In h) fun u s1 ⟨x, H1, In1, rx, b, C, dx, fs, f, fd, ps, sp, its, dvs, ex, eb, l, c, hm, Ok, bd, rd, q⟩ => ?_) ht
  subst ex
  obtain rfl : u = Value.ref b := rx
  refine getmeth_ok In1 eb c hm l ?_
  refine PySem.W.callWith_K (first := [.ref b]) (h₀ := X.base) In.ok.mod.kin hm.kp (thn (ha.run pos pins s1 σ H1 _ In1 q) fun us s2 ⟨vs, H2, In2, r, ⟨l1, l2⟩, q2⟩ => ⟨In2.kIn, ?_⟩) hst hpl
  subst l2
  exact run_bd (v := .ref b) (ws := []) (zs := []) Ok room bd (passAt tk σ) In2 rfl r .nil rd l1 rfl (by rw [List.append_nil]; exact q2)
theorem pe_methD0 {m : Str} {pl : Sem Bool} {apos : Pos} {ta : L2.TE} (he : PE X o ta) (room : Room k X.A) (tk : Takes X W)
    (ht : eval (.Call (.Attribute o m apos) [] [] pos) X.env = (do
      let ov ← eval o X.env
      standAt apos.atName
      let (f, first) ← holding [ov] (getMethod ov m pl)
      callWith pos f first (backTo pos (starEach [] X.env)) (backToKw pos (keywordEach [] X.env)))) :
    PE X (.Call (.Attribute o m apos) [] [] pos) (tMD X W k 0 m [] ix false ta fun σ H R => R [] H) := by
  refine ⟨fun pins s σ H Q In h => ?_⟩
  refine PySem.W.methodCall_KW (pl := pl) (thn (he.run pins s σ H _ In h) fun u s1 ⟨x, H1, In1, rx, b, C, dx, fs, f, fd, ps, sp, its, dvs, ex, eb, l, c, hm, Ok, bd, rd, _, q⟩ => ?_) ht
  subst ex
  obtain rfl : u = Value.ref b := rx
  refine getmeth_ok In1 eb c hm l ?_
  refine PySem.W.callWith_K0 (first := [.ref b]) In1.kIn hm.kp ?_
  exact run_bd (v := .ref b) (us := []) (vs := []) (ws := []) (zs := []) (ks := []) Ok room bd (passAt tk σ) In1 rfl .nil .nil rd rfl rfl q
theorem pe_methDK {m : Str} {pl : Sem Bool} {apos : Pos} {ta : L2.TE} {t : L2.TA} {kws : List Keyword} (he : PE X o ta) (room : Room k X.A) (tk : Takes X W) (ha : PK X kws t) (hall : (backToKw pos (keywordEach kws X.env)).all (·.1.isSome) = true) (hks : (backToKw pos (keywordEach kws X.env)).filterMap (·.1) = ks)
    (hpl : ((backTo pos (starEach [] X.env)).any (·.1) || (backToKw pos (keywordEach kws X.env)).any (·.1.isNone)) = false)
    (ht : eval (.Call (.Attribute o m apos) [] kws pos) X.env = (do
      let ov ← eval o X.env
      standAt apos.atName
      let (f, first) ← holding [ov] (getMethod ov m pl)
      callWith pos f first (backTo pos (starEach [] X.env)) (backToKw pos (keywordEach kws X.env)))) :
    PE X (.Call (.Attribute o m apos) [] kws pos) (tMD X W k 0 m ks ix true ta t) := by
  refine ⟨fun pins s σ H Q In h => ?_⟩
  refine PySem.W.methodCall_KW (pl := pl) (thn (he.run pins s σ H _ In h) fun u s1 ⟨x, H1, In1, rx, b, C, dx, fs, f, fd, ps, sp, its, dvs, ex, eb, l, c, hm, Ok, bd, rd, q⟩ => ?_) ht
  subst ex
  obtain rfl : u = Value.ref b := rx
  refine getmeth_ok In1 eb c hm l ?_
  refine PySem.W.callWith_KW0 (first := [.ref b]) (h₀ := X.base) In.ok.mod.kin hm.kp hall ?_ hpl
  refine thn (ha.run pos pins s1 σ H1 _ In1 q) fun ws s2 ⟨zs, H2, In2, rz, ⟨_, hl⟩, q2⟩ => ⟨In2.kIn, ?_⟩
  rw [hks]
  exact run_bd (v := .ref b) (us := []) (vs := []) Ok room bd (passAt tk σ) In2 rfl .nil rz rd rfl hl q2
def onMethD (ix : List Nat) (nn : Nat) (dd : List D) (mf : Fn) (s : S) (ss : List S) : M S := M.bnd (takeAll ss) fun ds => if ds.length = nn then onMeth mf s ((pick .non ix (ds ++ dd)).map S.val) else fun _ => .stuck
def eMethD (m : Str) (ix : List Nat) (nn : Nat) (dd : List D) (tab : Str → Option Fn) (mo : M S) (ms : M (List S)) : M S := M.bnd mo fun s0 => M.bnd (norm s0) fun s => fun τ => match insAt τ s with
  | some (c, fs) => (match tab c, fs.lookup m with
    | some mf, none => (M.bnd ms fun ss => onMethD ix nn dd mf s ss) τ
    | _, _ => .stuck)
  | none => .stuck
theorem on_methD {v : V} {s : S} {vs dvs : List V} {ss : List S} {Q : VK} {nn : Nat} (pr : Proper mf) (hn : ∀ ss, mf ss ≠ .stuck → ss.length = n) (fd : ∀ Φ, FzL F.G Φ dvs dd) (l : vs.length = ss.length) (r : Rl F Φ H σ τ ((vs.map some).zip ss ++ ((some v, s) :: tm))) (h : Wp F W tm (onMethD ix nn dd mf s ss τ) fun s τ' => ∀ v H' Φ', Rl F Φ' H' σ τ' ((some v, s) :: tm) → Q v H') : vs.length = nn ∧ spM F.G n mf (v :: pick .non ix (vs ++ dvs)) H Q (WE W σ) := by
  obtain ⟨ds, τ2, e, p2⟩ := takeAll_cases (Wp.bnd h)
  obtain ⟨Φ2, r2, q⟩ := Rl.takenAll l r e
  split at p2
  · rename_i hz
    have q2 := q.append (fd Φ2)
    refine ⟨by rw [q.length]; exact hz, on_meth (Φ := Φ2) pr hn ?_ ?_ p2⟩
    · rw [List.length_map, (pick_fz (ix := ix) q2).length]
    · exact r2.vals (pick_fz q2)
  · exact p2.elim
theorem t_methD {m : Str} {tab : Str → Option Fn} {Q : VK} {np : Nat} {kw : Bool} {nn : Nat} (mk : MetD X.prog X.w X.K X.mg X.base F.G k m n np ks ix dd tab) (hn : ∀ z : Nat, z = nn → (if kw = true then np = 0 ∧ z = ks.length else z = np ∧ ks = [])) (h : TEm F W (eMethD m ix nn dd tab mo ms) σ H Q) : tMD X W k np m ks ix kw (TEm F W mo) (TLm F W ms) σ H Q := by
  obtain ⟨Φ, τ, tm, rl, h⟩ := h
  refine te_go rl h.bnd fun s0 τ1 v H1 Φ1 p1 r1 => ?_
  obtain ⟨s, τ2, Φ2, r2, p2⟩ := norm_cases r1 (Wp.bnd p1)
  cases e : insAt τ2 s with
  | none => simp only [e] at p2; exact p2.elim
  | some cf =>
    obtain ⟨c, fs⟩ := cf
    simp only [e] at p2
    obtain ⟨b, C, dx, vs, rfl, hb, g, ff⟩ := insAt_ok r2 r2.hd e
    cases e1 : tab c with
    | none => simp only [e1] at p2; exact p2.elim
    | some mf =>
      cases e2 : fs.lookup m with
      | some _ => simp only [e1, e2] at p2; exact p2.elim
      | none =>
        simp only [e1, e2] at p2
        obtain ⟨f, fd, ps, its, dvs, c1, c2, Ok, bd, rd, fz⟩ := mk.ex c mf e1 C g
        exact ⟨b, C, dx, vs, f, fd, ps, _, its, dvs, rfl, hb, FzF.look0 ff e2, c1, c2, Ok, bd, rd, tl_go r2 (Wp.bnd p2) fun ss τ3 vs' H3 Φ3 p3 l r3 => by
          obtain ⟨q1, q2⟩ := on_methD (mk.pr c mf e1) (mk.ar c mf e1) fz l r3 p3
          exact ⟨hn _ q1, q2⟩⟩
theorem em_methD {m : Str} {tab : Str → Option Fn} {pl : Sem Bool} {apos : Pos} {np : Nat} (ft : Fits X F W) (hr : Room k X.A) (mk : MetD X.prog X.w X.K X.mg X.base F.G k m n np [] ix dd tab) (he : EM X F W o mo) (ha : LM X F W (a :: es) ms)
    (hst : starEach (a :: es) X.env = (false, eval a X.env) :: starEach es X.env := by rfl) (hpl : (backTo pos (starEach es X.env)).any (·.1) = false := by rfl)
    (ht : eval (.Call (.Attribute o m apos) (a :: es) [] pos) X.env = (do
      let ov ← eval o X.env
      standAt apos.atName
      let (f, first) ← holding [ov] (getMethod ov m pl)
      callWith pos f first (backTo pos (starEach (a :: es) X.env)) (backToKw pos (keywordEach [] X.env))) := by rfl) :
    EM X F W (.Call (.Attribute o m apos) (a :: es) [] pos) (eMethD m ix np dd tab mo ms) := PE.imp (pe_methD he hr ft.tk ha hst hpl ht) fun σ H Q h => t_methD mk (fun z hz => by simpa using hz) h
theorem em_methD0 {m : Str} {tab : Str → Option Fn} {pl : Sem Bool} {apos : Pos} (ft : Fits X F W) (hr : Room k X.A) (mk : MetD X.prog X.w X.K X.mg X.base F.G k m n 0 [] ix dd tab) (he : EM X F W o mo)
    (ht : eval (.Call (.Attribute o m apos) [] [] pos) X.env = (do
      let ov ← eval o X.env
      standAt apos.atName
      let (f, first) ← holding [ov] (getMethod ov m pl)
      callWith pos f first (backTo pos (starEach [] X.env)) (backToKw pos (keywordEach [] X.env))) := by rfl) :
    EM X F W (.Call (.Attribute o m apos) [] [] pos) (eMethD m ix 0 dd tab mo lNil) := PE.imp (pe_methD0 he hr ft.tk ht) fun σ H Q h => by
  refine te_mono (t_methD (kw := false) mk (fun z hz => by simpa using hz) h) fun x H1 ⟨b, C, dx, fs, f, fd, ps, sp, its, dvs, h1, h2, h3, h4, h5, h6, h7, h8, h9⟩ => ⟨b, C, dx, fs, f, fd, ps, sp, its, dvs, h1, h2, h3, h4, h5, h6, h7, h8, ?_⟩
  obtain ⟨Φ, τ, tm, r, q⟩ := h9
  exact q [] H1 Φ rfl r
theorem em_methDK {m : Str} {tab : Str → Option Fn} {pl : Sem Bool} {apos : Pos} {kws : List Keyword} (ft : Fits X F W) (hr : Room k X.A) (mk : MetD X.prog X.w X.K X.mg X.base F.G k m n 0 ks ix dd tab) (he : EM X F W o mo) (ha : KM X F W kws ms) (hall : (backToKw pos (keywordEach kws X.env)).all (·.1.isSome) = true := by rfl) (hks : (backToKw pos (keywordEach kws X.env)).filterMap (·.1) = ks := by rfl)
    (hpl : ((backTo pos (starEach [] X.env)).any (·.1) || (backToKw pos (keywordEach kws X.env)).any (·.1.isNone)) = false := by rfl)
    (ht : eval (.Call (.Attribute o m apos) [] kws pos) X.env = (do
      let ov ← eval o X.env
      standAt apos.atName
      let (f, first) ← holding [ov] (getMethod ov m pl)
      callWith pos f first (backTo pos (starEach [] X.env)) (backToKw pos (keywordEach kws X.env))) := by rfl) :
    EM X F W (.Call (.Attribute o m apos) [] kws pos) (eMethD m ix ks.length dd tab mo ms) := PE.imp (pe_methDK he hr ft.tk ha hall hks hpl ht) fun σ H Q h => t_methD (kw := true) mk (fun z hz => by simpa using hz) h
end
section
variable {fa : List He.Fa} {fn : List He.DefD} {tq : List Tq} {exs : PySem.W.Frag → List Bool} {P : Program} {w : World} {K : PySem.W.Frag} {mg : Str → Option Value} {base : Heap} {k n np : Nat} {mf : Fn} {c f m qual : Str} {ps ks : List Str} {ix : List Nat} {fd : FuncData} {params : Arguments} {bdy : List Stmt} {scope : Scope} {dvs : List V} {dd : List D} {fA : Addr}
def Met1D (P : Program) (w : World) (K : PySem.W.Frag) (mg : Str → Option Value) (base : Heap) (G : Gx) (k : Nat) (m : Str) (n np : Nat) (ks : List Str) (ix : List Nat) (dd : List D) (c : Str) (mf : Fn) : Prop :=
  (∀ C, G.cls c = some C → ∃ f fd ps its dvs, Cls K C ∧ Meth K C m f ∧ FnOk P w K mg base (L2.CX P w) k f fd ps (spM G n mf) ∧ BindD K fd ps np ks ix its ∧ Vals dvs its ∧ ∀ Φ, FzL G Φ dvs dd) ∧ Proper mf ∧ ∀ ss, mf ss ≠ .stuck → ss.length = n
/-- no defaults -/
theorem bindD0 (Fu : FunD K m qual params bdy scope [] [] fA fd) (hb : ∀ (kV doc pm : Value) (an : Option Addr) (cdv ct v : Value) (us ws : List Value), us.length = np → ws.length = ks.length → bindArgs (PySem.W.fnOf m qual params bdy scope .none kV doc pm an cdv ct) ⟨v :: us, ks.zip ws⟩ = pure (ps.zip (v :: pick .none ix (us ++ ws)))) : BindD K fd ps np ks ix [] := fun s v us ws _ h1 h2 => by
  obtain ⟨oc, od, dV, kV, doc, pm, an, cdv, ct, osl, rfl, lk, hcd, hD, hK⟩ := Fu.ex
  rcases hD with ⟨_, rfl⟩ | ⟨e, _⟩
  · rw [List.append_nil]
    exact .of_eq (hb kV doc pm an cdv ct v us ws h1 h2)
  · exact absurd rfl e
/-- defaults -/
theorem bindD1 (Fu : FunD K m qual params bdy scope dvs [] fA fd) (hd : dvs ≠ []) (hb : ∀ (T : Addr) (kV doc pm : Value) (an : Option Addr) (cdv ct v : Value) (us ws its : List Value), us.length = np → ws.length = ks.length → its.length = dvs.length →
    ∃ k, bindArgs (PySem.W.fnOf m qual params bdy scope (.ref T) kV doc pm an cdv ct) ⟨v :: us, ks.zip ws⟩ = seqItems? (.ref T) >>= k ∧ k (some its.toArray) = pure (ps.zip (v :: pick .none ix (us ++ ws ++ its)))) : ∃ its, Vals dvs its ∧ BindD K fd ps np ks ix its := by
  obtain ⟨oc, od, dV, kV, doc, pm, an, cdv, ct, osl, rfl, lk, hcd, hD, hK⟩ := Fu.ex
  rcases hD with ⟨e, _⟩ | ⟨_, T, o, its, mm, rfl, lT, oT, rT⟩
  · exact absurd e hd
  · refine ⟨its, rT, fun s v us ws X h1 h2 => ?_⟩
    obtain ⟨k, e1, e2⟩ := hb T kV doc pm an cdv ct v us ws its h1 h2 rT.length.symm
    refine BindsTo.of_looks fun M => ?_
    rw [e1]
    exact looks_items X lT oT (.of_pure e2)
theorem met1D (hd : HdOk fa fn tq exs K mg base) (h : metB c m K = true) (ok : FnOk P w K mg base (L2.CX P w) k (He.fAd K (c, some m)) fd ps (spM (gxOf tq K mg) n mf)) (b : ∃ its, Vals dvs its ∧ BindD K fd ps np ks ix its) (fz : ∀ Φ, FzL (gxOf tq K mg) Φ dvs dd) (pr : Proper mf) (ar : ∀ ss, mf ss ≠ .stuck → ss.length = n) : Met1D P w K mg base (gxOf tq K mg) k m n np ks ix dd c mf := by
  obtain ⟨h1, h2⟩ := He.ba h
  obtain ⟨h2, h3⟩ := He.ba h2
  refine ⟨fun C g => ?_, pr, ar⟩
  rw [hd.gat h1 g]
  obtain ⟨its, rT, bd⟩ := b
  exact ⟨_, fd, ps, its, dvs, He.cls_ok h2, He.meth_ok h3, ok, bd, rT, fz⟩
theorem Met1D.up {j : Nat} {G : Gx} (h : Met1D P w K mg base G j m n np ks ix dd c mf) (le : j ≤ k) : Met1D P w K mg base G k m n np ks ix dd c mf := ⟨fun C g => by
  obtain ⟨f, fd, ps, its, dvs, a, b, o, d⟩ := h.1 C g
  exact ⟨f, fd, ps, its, dvs, a, b, o.mono le, d⟩, h.2⟩
theorem metOkD {G : Gx} {l : List (Str × Fn)} (h : ∀ e ∈ l, Met1D P w K mg base G k m n np ks ix dd e.1 e.2) : MetD P w K mg base G k m n np ks ix dd fun x => l.lookup x :=
  ⟨fun c mf e C g => (h _ (PySem.mem_of_lookup e)).1 C g, fun c mf e => (h _ (PySem.mem_of_lookup e)).2.1, fun c mf e => (h _ (PySem.mem_of_lookup e)).2.2⟩
/-- the own body's rule for a def with defaults -/
theorem fnDd {G : Gx} {qual x : Str} {kws : List (Str × V)} {N : List Str} {m : M Fl} (hK : G.K = K) (Fu : FunD K x qual params bdy scope dvs kws fA fd) (Sc : FnScope N ps scope)
    (body : ∀ (cdv : Value) (A : Around) (outer : List Env) (s : Shared) (H : Hp) (E : XK) (F : Fm), fd.code = cdv → F.G = G → Room k (A.deeper (envOfC qual scope s.heap.objs.size fA cdv)) →
      Fits (cxOf (L2.CX P w) P w K mg base N qual scope fA cdv A outer s H E) F (fun cls d _ H => E cls d H) → BlM (cxOf (L2.CX P w) P w K mg base N qual scope fA cdv A outer s H E) F (fun cls d _ H => E cls d H) bdy m) :
    FnOk P w K mg base (L2.CX P w) (k + 1) fA fd ps (spM G ps.length (runFn ps.length N.length m)) := fnD hK Fu Sc body
end
end Mi

/-! ### M35: texts cut, repeated, walked into lists; one sign in a text; x[::-1]; displays of dicts; l.index(x) -/
namespace Mi
open PySem PySem.Spec PyProof.Rows L2
section
variable {X : Cx} {F : Fm} {W : WX} {Φ Φ' H H' : Hp} {σ : L2.St} {τ τ' : List S} {tm : Env1} {a b o e : Expr} {ma mb mo mx : M S} {ms : M (List S)} {ml mh : M (Option Int)} {pos p apos : Pos}
/-- z[lo:hi] of a text -/
def fSlT : D → Option Int → Option Int → Option S
  | .str z, lo, hi => if z.length ≤ sizeLine then some (.val (.str (cutS z lo hi))) else none
  | _, _, _ => none
def eSlT (mx : M S) (ml mh : M (Option Int)) : M S := M.bnd mx fun s => M.bnd ml fun lo => M.bnd mh fun hi => M.bnd (peek s) fun d => M.of (fSlT d lo hi)
theorem em_slT {lo hi : Option Expr} {p2 : Pos} (hx : EM X F W e mx) (hl : OM X F W lo ml) (hh : OM X F W hi mh) : EM X F W (.Subscript e (.Slice lo hi none p2) pos) (eSlT mx ml mh) := PE.imp (pe_slice sl_str hx hl hh) fun σ H Q ⟨Φ, τ, tm, r, h⟩ => te_go r (Wp.bnd h) fun s τ1 v H1 Φ1 p1 r1 => by
  refine ⟨Φ1, τ1, _, r1, ((Wp.bnd p1).air (Subp.cons' (Subp.of (List.Sublist.refl _)))).mono fun lo' τ2 p2 H2 Φ2 r2 => ⟨Φ2, τ2, _, r2, ((Wp.bnd p2).air (Subp.cons' (Subp.of (List.Sublist.refl _)))).mono fun hi' τ3 p3 H3 Φ3 r3 => ?_⟩⟩
  obtain ⟨d, e1, p4⟩ := Wp.peek (Wp.bnd p3)
  obtain ⟨s', e2, k⟩ := Wp.of p4
  have rd := r3.peek r3.hd e1
  unfold fSlT at e2
  split at e2
  · split at e2
    · rename_i hz
      cases e2
      exact ⟨_, rd.str, hz, k _ _ _ (r3.tl.val (.str _))⟩
    · cases e2
  · cases e2
/-- one sign in a text -/
def fInC (d e : D) : Option S := match d, e with
  | .str i, .str z => (match i.cps.toList with
    | [c] => some (.val (.bl (decide (c ∈ z.cps.toList))))
    | _ => none)
  | _, _ => none
theorem o_inC : OpS F fInC (fun x y H Q => ∃ (c : Nat) (z : Str), x = .str ⟨#[c]⟩ ∧ y = .str z ∧ Q (.bl (decide (c ∈ z.cps.toList))) H) := by
  intro Φ H σ τ tm v w d e s Q rl hd he hf k
  unfold fInC at hf
  split at hf
  · rename_i i z
    split at hf
    · rename_i c hc
      cases hf
      have ei : i = ⟨#[c]⟩ := Str.ext' (Array.toList_inj.mp hc)
      exact ⟨c, z, by rw [hd.str, ei], he.str, k _ _ _ (rl.val (.bl _))⟩
    · cases hf
  · cases hf
theorem x_inC (ha : EM X F W a ma) (hb : EM X F W b mb) (hm : behindInMarks .In b = false := by with_unfolding_all rfl) : EM X F W (.Compare a [.In] [b] pos) (eOp fInC ma mb) := em_cmp op_in_sign o_inC ha hb hm
theorem t_inC (ha : EM X F W a ma) (hb : EM X F W b mb) (hm : behindInMarks .In b = false := by with_unfolding_all rfl) : BM X F W (.Compare a [.In] [b] pos) (bVal (eOp fInC ma mb)) := bm_cmp op_in_sign o_inC ha hb hm
/-- a sign so many times -/
def fMulS (d e : D) : Option S := match d, e with
  | .str z, .int n => if z.length = 1 ∧ -1000 ≤ n ∧ n ≤ 1000 then some (.val (.str (Txt.mul z n))) else none
  | _, _ => none
theorem op_mulS : OpR X (binaryOp .Mult) (fun x y H Q => ∃ z n, x = .str z ∧ y = .int n ∧ MulOk z n ∧ Q (.str (Txt.mul z n)) H) := by
  intro pins s σ H x y v u Q I rx ry h
  obtain ⟨z, n, rfl, rfl, ok, q⟩ := h
  obtain ⟨t, rfl⟩ := rx
  obtain ⟨t', rfl⟩ := ry
  exact SB.mul ok fun t2 k => ⟨.str _, H, I.tok _, ⟨_, rfl⟩, q⟩
theorem mulOk1 {z : Str} {n : Int} (h : z.length = 1) (h1 : -1000 ≤ n) (h2 : n ≤ 1000) : MulOk z n := by
  refine ⟨?_, fun h3 _ h4 => ?_, fun h3 _ => ?_⟩
  · rw [Bool.or_eq_false_iff]
    exact ⟨decide_eq_false (by omega), decide_eq_false (by omega)⟩
  · rw [h] at h4
    have := Int.ediv_le_ediv (c := n) (a := 1000) (b := 2 ^ 63 - 1) (by omega) (by decide)
    have h5 : (1 : Int) ≤ 1000 / n := by
      rw [Int.le_ediv_iff_mul_le (by omega)]
      omega
    omega
  · rw [h]
    show decide (1 * n.toNat > sizeLine) = false
    rw [sizeLine_eq]
    exact decide_eq_false (by omega)
theorem x_mulS (ha : EM X F W a ma) (hb : EM X F W b mb) : EM X F W (.BinOp a .Mult b pos) (eOp fMulS ma mb) := em_op op_mulS (fun {Φ H σ τ tm v w d e s Q} rl hd he hf k => by
  unfold fMulS at hf
  split at hf
  · split at hf
    · rename_i hz
      cases hf
      exact ⟨_, _, hd.str, he.int, mulOk1 hz.1 hz.2.1 hz.2.2, k _ _ _ (rl.val (.str _))⟩
    · cases hf
  · cases hf) ha hb
/-- list(text) -/
def signV (c : Nat) : V := .str ⟨#[c]⟩
theorem vals_signs {z : Str} {acc : Array Value} (h : ItemsOf (SignAt z) acc z.cps.size) : Vals (z.cps.toList.map signV) acc.toList := by
  have e : acc.toList.length = z.cps.toList.length := by rw [Array.length_toList, Array.length_toList]; exact h.1
  have go : ∀ (l : List Nat) (us : List Value), us.length = l.length → (∀ (j : Nat) (u : Value), us[j]? = some u → ∃ (c : Nat) (t : Tok), l[j]? = some c ∧ u = Value.str ⟨#[c]⟩ t) → Vals (l.map signV) us := by
    intro l
    induction l with
    | nil => intro us hl _; cases List.length_eq_zero_iff.mp hl; exact .nil
    | cons c l ih =>
      intro us hl hu
      cases us with
      | nil => cases hl
      | cons u us =>
        obtain ⟨c', t, e1, e2⟩ := hu 0 u rfl
        cases (show c = c' from Option.some.inj e1)
        subst e2
        exact .cons ⟨t, rfl⟩ (ih us (by simpa using hl) fun j v hv => hu (j + 1) v hv)
  refine go _ _ e fun j u hj => ?_
  obtain ⟨c, t, h1, h2⟩ := h.2 j u (by rw [← hj, Array.getElem?_toList])
  exact ⟨c, t, by rw [Array.getElem?_toList]; exact h1, h2⟩
theorem call_listS (hc : X.calm = true) : CallR X (.type "list") (fun xs H Q => ∃ z, xs = [.str z] ∧ z.length ≤ sizeLine ∧ ∀ p, H p = none → Q (.ref p) (upd H p (.lst (z.cps.toList.map signV)))) := by
  intro pins s σ H xs us Q I r h
  obtain ⟨z, rfl, hz, q⟩ := h
  obtain ⟨u, rfl, t, rfl⟩ := vals1 r
  refine call_list_str (I.ok.hd hc) z t (fun h' tk acc c' hk e hi => ?_) hz
  refine ⟨.ref s.heap.objs.size, upd H s.heap.objs.size (.lst (z.cps.toList.map signV)), I.laid hk (Nat.le_refl _) (show ObjOk X.prog X.w _ _ _ (.lst _) from ⟨?_, acc.toList, c', vals_signs hi, ?_⟩), rfl, q _ (I.hok.fresh (Nat.le_refl _))⟩
  · rw [List.length_map, Array.length_toList]; exact hz
  · rw [Array.toArray_toList]; exact e
def fListS : List D → Option S
  | [.str z] => if z.length ≤ sizeLine then some (.own (.lst (signsD z))) else none
  | _ => none
theorem fz_signs {G : Gx} : ∀ l : List Nat, FzL G Φ (l.map signV) (l.map fun c => D.str ⟨#[c]⟩)
  | [] => .nil
  | c :: l => .cons (Fz.str _) (fz_signs l)
theorem x_listS (ft : Fits X F W) (hm : X.mg "list" = none) (ha : LM X F W [a] ms) (hg : Gl X "list" := by rfl) (he : starEach [a] X.env = (false, eval a X.env) :: starEach [] X.env := by rfl) : EM X F W (.Call (.Name "list" p) [a] [] pos) (eCB fListS ms) := em_callTy (call_listS ft.calm) (fun {Φ H σ τ tm vs ds s Q} rl hd hf k => by
  unfold fListS at hf
  split at hf
  · split at hf
    · rename_i hz
      cases hf
      obtain ⟨v, rfl, h1⟩ := rd1 hd
      exact ⟨_, by rw [h1.str], hz, fun p hp => k _ _ _ (rl.mine hp (fz_signs _))⟩
    · cases hf
  · cases hf) hm ha (by decide +kernel) hg (by decide) (by decide) he rfl
/-- xs[::-1] -/
def fRev : D → Option S
  | .lst xs => some (.own (.lst xs.reverse))
  | .scr xs => some (.own (.lst xs.reverse))
  | _ => none
theorem em_rev {k : Nat} {p1 p2 p3 : Pos} (ft : Fits X F W) (ha : EM X F W a ma) : EM X F W (.Subscript a (.Slice none none (some (.UnaryOp .USub (.Constant (.int 1) k p1) p2)) p3) pos) (eUn fRev ma) := PE.imp (pe_revL ha) fun σ H Q h => t_un (r := fun x H1 Q => ∃ a xs, x = .ref a ∧ SqL X.K H1 a xs ∧ ∀ p, H1 p = none → Q (.ref p) (upd H1 p (.lst xs.reverse))) (fun {Φ H σ τ tm v d s Q} rl hd hf k => by
  unfold fRev at hf
  split at hf
  · cases hf
    obtain ⟨a, vs, e1, e2, q⟩ := hd.lst rl.le
    exact ⟨a, vs, e1, .inl (.inl e2), fun p hp => k _ _ _ (rl.mine hp (FzL.reverse q))⟩
  · cases hf
    obtain ⟨a, vs, e1, e2, q⟩ := hd.scr rl.le
    exact ⟨a, vs, e1, by rw [ft.K]; exact e2, fun p hp => k _ _ _ (rl.mine hp (FzL.reverse q))⟩
  · cases hf) h
/-- {k: v} with two constants; {k: x} with a name -/
theorem upd_upd {H : Hp} {q : Addr} {u v : HO} : upd (upd H q u) q v = upd H q v := by
  funext b
  by_cases e : b = q
  · rw [e, upd_same, upd_same]
  · rw [upd_ne e, upd_ne e, upd_ne e]
theorem dict1 {k : Key} {v : V} {d : D} {Q : VK} (r : Rl F Φ H σ τ tm) (f : Fz F.G Φ v d) (q : ∀ v' H' Φ', Rl F Φ' H' σ τ ((some v', .val (.dic [(k, d)])) :: tm) → Q v' H') {q0 : Addr} (hq : H q0 = none) : (upd H q0 (.dK [])) q0 = some (.dK []) ∧ ∃ kvs : List (Key × V), [(kV k, v)] = kvs.map (fun kv => (kV kv.1, kv.2)) ∧ kvs.length ≤ 15 ∧ Q (.ref q0) (upd (upd H q0 (.dK [])) q0 (.dK (mergeK [] kvs))) := by
  refine ⟨upd_same, [(k, v)], rfl, (by simp : 1 ≤ 15), ?_⟩
  rw [upd_upd]
  have r2 := r.within (o := .dK (mergeK [] [(k, v)])) hq
  exact q _ _ _ (r2.val (.dic upd_same (.cons (Fz.le (le_upd (r.fre hq)) f) .nil)))
theorem em_dic1 {k n : Int} {i j : Nat} {p1 p2 : Pos} : EM X F W (.Dict [some (.Constant (.int k) i p1)] [.Constant (.int n) j p2] pos) (eLit (.dic [(.inl k, .int n)])) :=
  PE.imp (pe_disp (pps_cons pe_int pe_int pps_nil) rfl rfl (by simp) (by simp)) fun σ H Q ⟨Φ, τ, tm, r, h⟩ q0 hq => dict1 (k := .inl k) r (.int n) h hq
def eDicN (k : Str) (j : Nat) : M S := fun τ => match τ[j]? with
  | some (.val d) => .ok (.val (.dic [(.inr k, d)]), τ)
  | _ => .stuck
/-- {'a': x}: x a name -/
theorem em_dicV {k : Str} {i j : Nat} {x : Str} {p1 p2 : Pos} (hN : X.N[j]? = some x := by rfl) (hv : Vis X.env.scope x := by first | exact Or.inl rfl | exact Or.inr (Or.inl rfl) | exact Or.inr (Or.inr rfl)) (hd : (x == ("__debug__" : Str)) = false := by decide)
    (hcd : (x == ("__classdict__" : Str)) = false := by decide) : EM X F W (.Dict [some (.Constant (.str k) i p1)] [.Name x p2] pos) (eDicN k j) :=
  PE.imp (pe_disp (pps_cons pe_str (pe_var hN hv hd hcd) pps_nil) rfl rfl (by simp) (by simp)) fun σ H Q ⟨Φ, τ, tm, r, h⟩ q0 hq => by
    unfold eDicN at h
    cases e : τ[j]? with
    | none => simp only [e] at h; exact h.elim
    | some s =>
      cases s with
      | val d =>
        simp only [e] at h
        obtain ⟨v, e1, em, y, e2, f⟩ := r.at e
        subst e2
        exact ⟨y, e1, dict1 (k := .inr k) r f h hq⟩
      | _ => simp only [e] at h; exact h.elim
end
end Mi

/-! ### M36: l.index(x) -/
namespace Mi
open PySem PySem.Spec PyProof.Rows L2
section
variable {X : Cx} {F : Fm} {W : WX} {Φ Φ' H H' : Hp} {σ : L2.St} {τ τ' : List S} {tm : Env1} {a b o e : Expr} {ma mb mo mx : M S} {ms : M (List S)} {pos p apos : Pos}
def isLstD : D → Option Unit
  | .lst _ => some ()
  | _ => none
def fIndex : D → List D → Option S
  | .lst xs, [e] => (match D.pys xs, e.py with
    | some ps, some q => if SeqAt.shaped (.list ps) = true ∧ SeqAt.shaped q = true then (ps.findIdx? fun z => PyData.eqv z q).map fun j => .val (.int (j : Nat)) else none
    | _, _ => none)
  | _, _ => none
def eIndex (mo : M S) (ms : M (List S)) : M S := M.bnd mo fun s => M.bnd (peek s) fun d0 => M.bnd (M.of (isLstD d0)) fun _ => M.bnd ms fun ss => M.bnd (peek s) fun d => M.bnd (peekAll ss) fun ds => M.of (fIndex d ds)
theorem find_at {α : Type} {f : α → Bool} {xs : List α} {j : Nat} (h : xs.findIdx? f = some j) : ∃ z, xs[j]? = some z ∧ f z = true ∧ ∀ (m : Nat) (z' : α), m < j → xs[m]? = some z' → f z' = false := by
  rw [List.findIdx?_eq_some_iff_getElem] at h
  obtain ⟨h1, h2, h3⟩ := h
  refine ⟨xs[j], List.getElem?_eq_getElem h1, h2, fun m z' hm hz => ?_⟩
  obtain ⟨hl, e⟩ := List.getElem?_eq_some_iff.mp hz
  have := h3 m hm
  rw [e] at this
  simpa using this
theorem em_index (ft : Fits X F W) (hu : X.A.units + 65 < cLine) (ho : EM X F W o mo) (ha : LM X F W [e] ms) (hbase : attributeBase o "index" X.env (eval o X.env) = eval o X.env := by rfl)
    (hfew : ((backTo pos (starEach (e :: []) X.env)).all (fun x => !x.1) && (backToKw pos (keywordEach [] X.env)).all (fun x => x.1.isSome) && decide ((e :: []).length + ([] : List Keyword).length + (if ([] : List Keyword).isEmpty then 0 else 1) < 30)) = true := by rfl)
    (hline : (apos.endLine == pos.line) = true := by rfl) (hs : starEach (e :: []) X.env = (false, eval e X.env) :: starEach [] X.env := by rfl) (hplain : (backTo pos (starEach [] X.env)).any (·.1) = false := by rfl) :
    EM X F W (.Call (.Attribute o "index" apos) [e] [] pos) (eIndex mo ms) := PE.imp (pe_bm PySem.F.plainAttrs_list PySem.F.slot_list_index PySem.F.type_list_index (mt_indexD hu) ho ha hbase hfew hline hs hplain) fun σ H Q ⟨Φ, τ, tm, r, h⟩ => by
  refine te_go r (Wp.bnd h) fun s τ1 v H1 Φ1 p1 r1 => ?_
  obtain ⟨d0, e1, p2⟩ := Wp.peek (Wp.bnd p1)
  obtain ⟨u, e2, p3⟩ := Wp.of (Wp.bnd p2)
  have rd0 := r1.peek r1.hd e1
  cases d0 with
  | lst xs0 =>
    obtain ⟨a, vs0, ea, hs0, q0⟩ := rd0.lst r1.le
    subst ea
    refine ⟨.inl ⟨rfl, vs0, .inl (.inl hs0)⟩, tl_go r1 (Wp.bnd p3) fun ss τ2 ws H2 Φ2 p4 l r2 => ?_⟩
    obtain ⟨d, e3, p5⟩ := Wp.peek (Wp.bnd p4)
    have rd := r2.peek (r2.one (some (.ref a), s) (List.mem_append_right _ (List.mem_append_right _ List.mem_cons_self))) e3
    obtain ⟨ds, q, p6⟩ := Rl.peekAll l r2 (Wp.bnd p5)
    obtain ⟨s', e4, k⟩ := Wp.of p6
    unfold fIndex at e4
    split at e4
    · rename_i xs y
      split at e4
      · rename_i ps qd e5 e6
        split at e4
        · rename_i hz
          obtain ⟨j, e7, e8⟩ := Option.map_eq_some_iff.mp e4
          subst e8
          obtain ⟨z, z1, z2, z3⟩ := find_at e7
          obtain ⟨w, rfl, hw⟩ := rd1 q
          exact ⟨a, w, qd, ps, j, z, rfl, rfl, by rw [ft.K]; exact rd_dp rd r2.le (by simp only [D.py, e5, Option.map_some]), by rw [ft.K]; exact rd_dp hw r2.le e6, hz.1, hz.2, z1, z2, z3, k _ _ _ ((r2.air (.of (List.sublist_append_right _ _))).tl.val (.int _))⟩
        · cases e4
      · cases e4
    · cases e4
  | _ => cases e2
end
end Mi

/-! ### M37: zip(a tuple, a list) in a comprehension or for, over the kit's own walk of two kinds (WalksT.zipD2) -/
namespace Mi.ZM
open PySem PySem.Spec PyProof.Rows L2
/-- the five cells that a zip at z owns, ahead of its turn i out of n -/
def Own5 (z TI TO i1 i2 a b : Addr) (n i : Nat) (h : Heap) : Prop :=
  i ≤ n ∧ IsZip h z TI TO .none ∧ IsTupOf2 h TI (.ref i1) (.ref i2) ∧ (∃ x y, IsTupOf2 h TO x y) ∧ h.IsTupleIter i1 a i ∧ h.IsListIter i2 b i
/-- what may be walked: a tuple at a and a list at b of which the shorter has n -/
def Two (K : PySem.W.Frag) (a b : Addr) (n : Nat) (H : Hp) : Prop := ∃ xs ys : List V, SqT K H a xs ∧ SqL K H b ys ∧ min xs.length ys.length = n
def ItzM (K : PySem.W.Frag) (a b : Addr) (n : Nat) : It where
  go := fun i H => i < n ∧ Two K a b n H
  yld := fun i H v H' => ∃ T x y, v = .ref T ∧ H' = upd H T (.tup [x, y]) ∧ H T = none ∧ (∀ ys, SqL K H b ys → ys[i]? = some y) ∧ ∀ xs, SqT K H a xs → xs[i]? = some x
  stop := fun i H => n ≤ i ∧ Two K a b n H
theorem five {p : Addr → Prop} {z TI TO i1 i2 : Addr} (h0 : p z) (h1 : p TI) (h2 : p TO) (h3 : p i1) (h4 : p i2) : ∀ c ∈ [z, TI, TO, i1, i2], p c := by
  intro c hc
  simp only [List.mem_cons, List.not_mem_nil, or_false] at hc
  rcases hc with rfl | rfl | rfl | rfl | rfl <;> assumption
theorem four {z TI TO i1 i2 c : Addr} (h : c ∉ [z, TI, TO, i1, i2]) : c ∉ [z, TO, i1, i2] := fun q => h (by
  simp only [List.mem_cons, List.not_mem_nil, or_false] at q ⊢
  rcases q with q | q | q | q <;> simp [q])
section
variable {P : Program} {w : World} {K : PySem.W.Frag} {elts : List Expr} {kk n : Nat} {tpos : Pos} {a b z TI TO i1 i2 : Addr}
theorem turn_zipM (S : ZipSep2 z TI TO i1 i2 [i1, a] [i2, b]) (na : a ≠ i1) (nb : b ≠ i2) : Turn P w K (.Tuple elts kk tpos) (ItzM K a b n) [z, TI, TO, i1, i2] z (Own5 z TI TO i1 i2 a b n) where
  mem := List.mem_cons_self
  self := fun A i s Q E st h => wpAny_pyIter_zip st.2.1 h
  keep := fun i h h' ⟨le, c0, c1, ⟨x, y, c2⟩, c3, c4⟩ k =>
    ⟨le, k _ (by simp) _ c0, k _ (by simp) _ c1, ⟨x, y, k _ (by simp) _ c2⟩, c3.at (k _ (by simp)), c4.at (k _ (by simp))⟩
  obj := fun i h ⟨le, c0, c1, ⟨x, y, c2⟩, ⟨o3, e3, _, d3⟩, o4, e4, _, d4⟩ => five ⟨_, c0, fun v q => nomatch q⟩ ⟨_, c1, fun v q => nomatch q⟩ ⟨_, c2, fun v q => nomatch q⟩
    ⟨o3, e3, fun v q => by cases d3.symm.trans q⟩ ⟨o4, e4, fun v q => by cases d4.symm.trans q⟩
  item := by
    rintro X rfl rfl rfl hc i pins s σ H E I hf ⟨le, c0, c1, c2, c3, c4⟩ ⟨lt, xs, ys, hx, hy, hn⟩
    obtain ⟨us, r1, p1, _⟩ := I.tuple hx
    obtain ⟨ws, r2, p2, _⟩ := I.list hy
    have n1 := r1.length
    have n2 := r2.length
    obtain ⟨x, ex⟩ : ∃ x, xs[i]? = some x := ⟨_, List.getElem?_eq_getElem (by omega)⟩
    obtain ⟨y, ey⟩ : ∃ y, ys[i]? = some y := ⟨_, List.getElem?_eq_getElem (by omega)⟩
    obtain ⟨u, eu, ru⟩ := r1.get ex
    obtain ⟨v, ev, rv⟩ := r2.get ey
    have W := WalksT.zipD2 (prog := X.prog) (w := X.w) (A := X.A) S (Draws.tuple (A := X.A.in1) (I.ok.hd hc) i1 a na us.toArray) (Draws.list (A := X.A.in1) (I.ok.hd hc) i2 b nb ws.toArray)
    refine W.item i s _ _ (by simp; omega) ⟨c0, c1, c2, ⟨c3, p1⟩, c4, p2.isList⟩ fun T vals h1 tk ⟨u', v', hu, hv, hvals⟩ hT isT mid k1 => ⟨_, rfl, W.go elts kk tpos i T _ _ _ mid fun h2 ⟨d0, d1, d2, d3, d4⟩ k2 => ?_⟩
    have eu' : u' = u := by simpa [eu] using hu.symm
    have ev' : v' = v := by simpa [ev] using hv.symm
    subst eu' ev' hvals
    obtain ⟨o, ho, ok⟩ := isT
    have new : ObjOk X.prog X.w (upd H T (.tup [x, y])) h2 T (.tup [x, y]) := ⟨by show 2 ≤ sizeLine; decide, [u', v'], .cons ru (.cons rv .nil), o, k2 T o (W.apart i T h1 mid) ho, ok⟩
    have I2 := I.turnedNew (t' := tk) (fun c oc q e => k2 c oc (four q) (k1 c oc (four q) e)) hf hT new
    have away : ∀ c o, s.heap.get? c = some o → c ≠ T := fun c o e => Nat.ne_of_lt (Nat.lt_of_lt_of_le (Heap.lt_size e) hT)
    refine ⟨.ref T, _, I2, rfl, ⟨T, x, y, rfl, rfl, I.hok.fresh hT, fun l q => by rw [I.list_inj q hy]; exact ey, fun l q => by rw [I.tuple_inj q hx]; exact ex⟩, ⟨lt, d0, d1, d2, d3.1, d4.1⟩, fun c q => ?_⟩
    rw [upd_ne]
    · exact (hf c q).1
    · obtain ⟨x0, y0, c2⟩ := c2
      obtain ⟨o3, e3, _⟩ := c3
      obtain ⟨o4, e4, _⟩ := c4
      exact five (p := fun c => c ≠ T) (away _ _ c0) (away _ _ c1) (away _ _ c2) (away _ _ e3) (away _ _ e4) c q
  done := by
    rintro X rfl rfl rfl hc i pins s σ H E I hf ⟨le, c0, c1, c2, c3, c4⟩ ⟨ge, xs, ys, hx, hy, hn⟩
    obtain ⟨us, r1, p1, _⟩ := I.tuple hx
    obtain ⟨ws, r2, p2, _⟩ := I.list hy
    have n1 := r1.length
    have n2 := r2.length
    have ei : i = min us.toArray.size ws.toArray.size := by simp; omega
    have W := WalksT.zipD2 (prog := X.prog) (w := X.w) (A := X.A) S (Draws.tuple (A := X.A.in1) (I.ok.hd hc) i1 a na us.toArray) (Draws.list (A := X.A.in1) (I.ok.hd hc) i2 b nb ws.toArray)
    refine W.done s _ _ ?_ fun h1 tk k1 => ⟨rfl, I.turnedL (t' := tk) (ch := [z, TI, TO, i1, i2]) (fun c oc q e => k1 c oc (four q) e) hf⟩
    rw [← ei]
    exact ⟨c0, c1, c2, ⟨c3, p1⟩, c4, p2.isList⟩
end
theorem sep5 {N a b : Nat} (ha : a < N) (hb : b < N) : ZipSep2 (N + 4) (N + 2) (N + 3) N (N + 1) [N, a] [N + 1, b] := by
  have ne : ∀ {x y : Nat}, (x < y ∨ y < x) → x ≠ y := fun h q => by omega
  have out : ∀ {x y v : Nat}, x ≠ y → x ≠ v → x ∉ [y, v] := fun h k q => by
    simp only [List.mem_cons, List.not_mem_nil, or_false] at q
    exact q.elim h k
  constructor <;> first | exact List.mem_cons_self | exact ne (by omega) | exact out (ne (by omega)) (ne (by omega))
def iZipM (K : PySem.W.Frag) (ta : L2.TA) : TI := fun σ H R => ta σ H fun vs H1 => ∃ a b n, vs = [.ref a, .ref b] ∧ Two K a b n H1 ∧ R (ItzM K a b n) H1
theorem pi_zipM {X : Cx} {e e2 : Expr} {ta : L2.TA} {p pos tpos : Pos} {elts : List Expr} {kk : Nat} (hg : Gl X "zip") (hm : X.mg "zip" = none) (ha : PA X [e, e2] ta)
    (hs : starEach [e, e2] X.env = (false, eval e X.env) :: starEach [e2] X.env := by rfl) (hpl : (backTo pos (starEach [e2] X.env)).any (·.1) = false := by rfl) :
    PI X (.Tuple elts kk tpos) (.Call (.Name "zip" p) [e, e2] [] pos) (iZipM X.K ta) where
  run := by
    intro pins s σ H R I h
    refine Call_ (ld_blt I hg hm PyProof.Rows.boot_zip (PyProof.Rows.callWith_type1 (thn (ha.run pos pins s σ H _ I h) ?_) hs hpl))
    rintro us s1 ⟨vs, H1, I1, r1, a, b, n, rfl, ⟨xs, ys, hx, hy, hn⟩, q⟩
    cases r1 with | cons ra r1 => ?_
    cases r1 with | cons rb r1 => ?_
    cases r1
    cases ra
    cases rb
    obtain ⟨its, v1, p1, _⟩ := I1.tuple hx
    obtain ⟨its2, v2, p2, _⟩ := I1.list hy
    have la : a < s1.heap.objs.size := by
      obtain ⟨o, e, _⟩ := p1
      exact Heap.lt_size e
    refine zip_begins2 (begins_tuple a its.toArray) (begins_list b its2.toArray) p1 p2.isList fun h' c0 c1 c2 c3 c4 sz k => wpAny_pyIter_zip c0 ?_
    have new : ∀ j, FpOk X pins H1 (s1.heap.objs.size + j) := fun j => I1.fpOk (Nat.le_add_right _ _) (I1.hok.fresh (Nat.le_add_right _ _))
    exact ⟨_, _, _, _, H1, rfl, I1.kept (t' := s1.toks) k, turn_zipM (sep5 la p2.lt) (Nat.ne_of_lt la) (Nat.ne_of_lt (Nat.lt_succ_of_lt p2.lt)), ⟨Nat.zero_le _, c0, c1, ⟨_, _, c2⟩, ⟨_, c3, rfl, rfl⟩, _, c4, rfl, rfl⟩, five (new 4) (new 2) (new 3) (new 0) (new 1), q⟩
end Mi.ZM
namespace Mi
open PySem PySem.Spec PyProof.Rows L2
section
variable {X : Cx} {F : Fm} {W : WX}
def zipMD : List D → Option (List D)
  | [.tup xs, .lst ys] => some (List.zipWith pairD xs ys)
  | _ => none
theorem yields_zipM (hK : X.K = F.G.K) {a b : Addr} {xs ys : List D} : Yields F (ZM.ItzM X.K a b (min xs.length ys.length)) (List.zipWith pairD xs ys) [(some (.ref a), .val (.tup xs)), (some (.ref b), .val (.lst ys))] noPin := by
  intro i Φ H σ τ tm r _
  obtain ⟨_, ea, qa⟩ := r.one (some (.ref a), .val (.tup xs)) (by simp)
  obtain ⟨_, eb, qb⟩ := r.one (some (.ref b), .val (.lst ys)) (by simp)
  cases ea
  cases eb
  cases qa with | @tup _ vs _ h1 t1 => ?_
  cases qb with | @lst _ ws _ h2 t2 => ?_
  have s1 : SqT X.K H a vs := by rw [hK]; exact SqT.le h1 r.le
  have s2 : SqL X.K H b ws := .inl (.inl (r.le _ _ h2))
  have two : ZM.Two X.K a b (min xs.length ys.length) H := ⟨vs, ws, s1, s2, by rw [t1.length, t2.length]⟩
  constructor
  · intro d hd
    obtain ⟨x, y, hx, hy, rfl⟩ := zip_at hd
    have lx := (List.getElem?_eq_some_iff.mp hx).1
    have ly := (List.getElem?_eq_some_iff.mp hy).1
    obtain ⟨v, hv, fv⟩ := FzL.at t1 hx
    obtain ⟨w, hw, fw⟩ := FzL.at t2 hy
    refine ⟨⟨by omega, two⟩, ?_⟩
    rintro _ _ ⟨T, v', w', rfl, rfl, hT, y2, y1⟩
    cases hv.symm.trans (y1 _ s1)
    cases hw.symm.trans (y2 _ s2)
    exact ⟨_, r.tuple hT (.cons fv (.cons fw .nil))⟩
  · intro hl
    rw [List.length_zipWith] at hl
    exact ⟨hl, two⟩
theorem im_zipM {e e2 : Expr} {ms : M (List S)} {p pos tpos : Pos} {elts : List Expr} {kk : Nat} (ft : Fits X F W) (hm : X.mg "zip" = none) (ha : LM X F W [e, e2] ms) (hg : Gl X "zip" := by rfl) (hs : starEach [e, e2] X.env = (false, eval e X.env) :: starEach [e2] X.env := by rfl) (hpl : (backTo pos (starEach [e2] X.env)).any (·.1) = false := by rfl) :
    IM X F W (.Tuple elts kk tpos) (.Call (.Name "zip" p) [e, e2] [] pos) (iTk zipMD ms) := by
  refine PI.imp (ZM.pi_zipM hg hm ha hs hpl) ?_
  rintro σ H Rr ⟨Φ, τ, tm, r, h⟩
  refine tl_go r (Wp.bnd h) fun ss τ1 vs H1 Φ1 p1 l r1 => ?_
  obtain ⟨ds, τ2, e3, p2⟩ := takeAll_cases (Wp.bnd p1)
  obtain ⟨Φ2, r2, q⟩ := Rl.takenAll l r1 e3
  obtain ⟨its, e4, k⟩ := Wp.of (Wp.bnd p2)
  unfold zipMD at e4
  split at e4
  case h_2 => cases e4
  rename_i xs ys
  cases e4
  cases q with | cons qa q => ?_
  cases q with | cons qb q => ?_
  cases q
  have r3 := (r2.val qb).val qa
  cases qa with | @tup a vs _ h1 t1 => ?_
  cases qb with | @lst b ws _ h2 t2 => ?_
  refine ⟨a, b, min vs.length ws.length, rfl, ⟨vs, ws, by rw [ft.K]; exact SqT.le h1 r2.le, .inl (.inl (r2.le _ _ h2)), rfl⟩, k _ H1 Φ2 _ ?_ r3 trivial (by rw [t1.length, t2.length]; exact yields_zipM ft.K)⟩
  intro c hc
  simp only [List.mem_cons, List.not_mem_nil, or_false] at hc
  rcases hc with rfl | rfl <;> trivial
end
end Mi

/-! ### M38: the first that stands twice, by a set of what was seen -/
namespace Mi
open PySem PySem.Spec PyProof.Rows L2
section
variable {X : Cx} {F : Fm} {W : WX} {Φ Φ' H H' : Hp} {σ : L2.St} {τ τ' : List S} {tm : Env1}
def keyOf : D → Option Key
  | .int i => some (.inl i)
  | .str x => some (.inr x)
  | _ => none
def keyD : Key → D
  | .inl i => .int i
  | .inr x => .str x
def keysD : List D → Option (List Key)
  | [] => some []
  | d :: ds => match keyOf d, keysD ds with
    | some k, some ks => some (k :: ks)
    | _, _ => none
def seenB (ks : List Key) (k : Key) : Bool := ks.any fun j => decide (k = j)
def dup1 (seen : List Key) : List Key → Option Key
  | [] => none
  | k :: ks => if seenB seen k = true then some k else dup1 (seen ++ [k]) ks
theorem dup1_cons {seen ks : List Key} {k : Key} : dup1 seen (k :: ks) = if seenB seen k = true then some k else dup1 (seen ++ [k]) ks := rfl
def dupD : Option Key → D
  | some k => keyD k
  | none => .non
def ftD (xs : List D) : Option D := match keysD xs with
  | some ks => if ks.length ≤ 1000 then some (dupD (dup1 [] ks)) else none
  | none => none
def seqOf : S → Option (List D)
  | .val (.lst xs) => some xs
  | .val (.tup xs) => some xs
  | .lent _ (.lst xs) => some xs
  | _ => none
def m_ft : M Fl := fun τ => match τ with
  | [s, .non, .non] => (match seqOf s with
    | some xs => (match ftD xs with
      | some d => .ok (.rt (.val d), [s, .non, .non])
      | none => .stuck)
    | none => .stuck)
  | _ => .stuck
theorem fz_key {G : Gx} (k : Key) : Fz G Φ (kV k) (keyD k) := by
  cases k with
  | inl i => exact .int i
  | inr x => exact .str x
theorem key_fz {G : Gx} {v : V} {d : D} {k : Key} (f : Fz G Φ v d) (h : keyOf d = some k) : v = kV k := by
  cases d with
  | int i => cases h; cases f; rfl
  | str x => cases h; cases f; rfl
  | _ => cases h
theorem keys_fz {G : Gx} : ∀ {vs : List V} {ds : List D} {ks : List Key}, FzL G Φ vs ds → keysD ds = some ks → vs = ks.map kV
  | _, _, _, .nil, h => by cases h; rfl
  | _, _, _, .cons (d := d) (ds := ds) f t, h => by
    unfold keysD at h
    cases e1 : keyOf d with
    | none => simp only [e1] at h; cases h
    | some k =>
      cases e2 : keysD ds with
      | none => simp only [e1, e2] at h; cases h
      | some ks =>
        simp only [e1, e2] at h
        cases h
        rw [List.map_cons, key_fz f e1, keys_fz t e2]
theorem Rl.nonset (r : Rl F Φ H σ τ tm) (qt : Quiet tm) {i : Nat} {v : V} (h : τ[i]? = some .non) : Rl F Φ H (σ.set i (some v)) τ tm := by
  have r2 := (r.put (p := (some v, .non)) trivial (fun _ _ => apart_none holds_non)).store trivial qt i
  have e : τ.set i .non = τ := by
    apply List.ext_getElem?
    intro j
    by_cases hj : i = j
    · subst hj
      rw [List.getElem?_set_self (List.getElem?_eq_some_iff.mp h).1, h]
    · rw [List.getElem?_set_ne hj]
  rw [e] at r2
  exact r2
theorem take_key {ks : List Key} {i : Nat} {k : Key} (h : ks[i]? = some k) : ks.take (i + 1) = ks.take i ++ [k] := by
  rw [List.take_succ, h, Option.toList_some]
theorem bl_ft (ft : Fits X F W) (hm : X.mg "set" = none) {p1 p2 p3 p4 p5 p6 p7 p8 p9 p10 p11 p12 p14 p15 p16 p17 p18 p19 p20 p21 : Pos} {j : Nat} (hg : Gl X "set" := by rfl) {xv xk xe : Str} (h0 : X.N[0]? = some xv := by rfl) (h1 : X.N[1]? = some xk := by rfl) (h2 : X.N[2]? = some xe := by rfl)
    (v0 : Vis X.env.scope xv := by first | exact Or.inl rfl | exact Or.inr (Or.inl rfl) | exact Or.inr (Or.inr rfl)) (v1 : Vis X.env.scope xk := by first | exact Or.inl rfl | exact Or.inr (Or.inl rfl) | exact Or.inr (Or.inr rfl)) (v2 : Vis X.env.scope xe := by first | exact Or.inl rfl | exact Or.inr (Or.inl rfl) | exact Or.inr (Or.inr rfl))
    (l1 : Loc X.env.scope xk := by first | exact Or.inl rfl | exact Or.inr rfl) (l2 : Loc X.env.scope xe := by first | exact Or.inl rfl | exact Or.inr rfl)
    (f1 : X.fn xk = true ∨ X.env.scope.names.lookup xk = some .local := by first | exact .inl rfl | exact .inr rfl) (f2 : X.fn xe = true ∨ X.env.scope.names.lookup xe = some .local := by first | exact .inl rfl | exact .inr rfl)
    (d0 : (xv == ("__debug__" : Str)) = false := by decide) (d1 : (xk == ("__debug__" : Str)) = false := by decide) (d2 : (xe == ("__debug__" : Str)) = false := by decide) (c0 : (xv == ("__classdict__" : Str)) = false := by decide) (c1 : (xk == ("__classdict__" : Str)) = false := by decide) (c2 : (xe == ("__classdict__" : Str)) = false := by decide)
    (sw : swapsWith (.Call (.Name "set" p2) [] [] p3) (some (.Name xk p1)) p4.line X.env = pure false := by rfl)
    (hmk : behindInMarks .In (.Name xk p8) = false := by with_unfolding_all rfl)
    (hbase : attributeBase (.Name xk p14) "add" X.env (eval (.Name xk p14) X.env) = eval (.Name xk p14) X.env := by rfl)
    (hfew : ((backTo p17 (starEach [.Name xe p16] X.env)).all (fun x => !x.1) && (backToKw p17 (keywordEach [] X.env)).all (fun x => x.1.isSome)
      && decide (([.Name xe p16] : List Expr).length + ([] : List Keyword).length + (if ([] : List Keyword).isEmpty then 0 else 1) < 30)) = true := by rfl)
    (hline : (p15.endLine == p17.line) = true := by rfl) (hs : starEach [.Name xe p16] X.env = (false, eval (.Name xe p16) X.env) :: starEach [] X.env := by rfl) (hplain : (backTo p17 (starEach [] X.env)).any (·.1) = false := by rfl)
    (sw2 : swapsWith (.Call (.Attribute (.Name xk p14) "add" p15) [.Name xe p16] [] p17) none p18.line X.env = pure false := by rfl)
    (hfold : ∀ x, foldedSetIterable (.Name xv p6) X.env x = pure x := by intro _; rfl) :
    BlM X F W [.Assign [.Name xk p1] (.Call (.Name "set" p2) [] [] p3) p4,
      .For (.Name xe p5) (.Name xv p6) [.If (.Compare (.Name xe p7) [.In] [.Name xk p8] p9) [.Return (some (.Name xe p10)) p11] [] p12, .Expr (.Call (.Attribute (.Name xk p14) "add" p15) [.Name xe p16] [] p17) p18] [] p19,
      .Return (some (.Constant .none j p20)) p21] m_ft := by
  have two : PI X (.Name xe p5) (.Name xv p6) (fun σ H R => tVar 0 σ H fun x H1 => ∃ a, x = .ref a ∧ (((∃ xs, SqL X.K H1 a xs) ∧ R (Itl X.K a) H1) ∨ ((∃ xs, SqT X.K H1 a xs) ∧ R (Itt X.K a) H1))) := by
    refine ⟨fun pins s σ H R I h => ?_⟩
    refine thn ((pe_var h0 v0 d0 c0 : PE X (.Name xv p6) (tVar 0)).run pins s σ H _ I h) fun v s1 ⟨x, H1, I1, r1, q1⟩ => ?_
    obtain ⟨a, e, q1 | q1⟩ := q1
    · obtain ⟨⟨xs, hq⟩, q⟩ := q1
      subst e
      cases r1
      obtain ⟨its, rv, p, hz⟩ := I1.list hq
      refine wpAny_pyIter_list p.isList ?_
      refine ⟨s1.heap.objs.size, [s1.heap.objs.size], _, _, H1, rfl, I1.kept (t' := s1.toks) fun b o e => Heap.get?_push_of_some _ e, turn_list a _, ⟨_, Heap.get?_push_size _ rfl, rfl, rfl⟩, fun b hb => ?_, q⟩
      have e : b = s1.heap.objs.size := by simpa using hb
      subst e
      exact I1.fpOk (Nat.le_refl _) (I1.hok.fresh (Nat.le_refl _))
    · obtain ⟨⟨xs, hq⟩, q⟩ := q1
      subst e
      cases r1
      obtain ⟨its, rv, p, hz⟩ := I1.tuple hq
      refine wpAny_pyIter_tuple (show s1.heap.IsTuple a its.toArray from p) ?_
      refine ⟨s1.heap.objs.size, [s1.heap.objs.size], _, _, H1, rfl, I1.kept (t' := s1.toks) fun b o e => Heap.get?_push_of_some _ e, turn_tuple a _, ⟨_, Heap.get?_push_size _ rfl, rfl, rfl⟩, fun b hb => ?_, q⟩
      have e : b = s1.heap.objs.size := by simpa using hb
      subst e
      exact I1.fpOk (Nat.le_refl _) (I1.hok.fresh (Nat.le_refl _))
  have raw := pss_cons (ps_set ft.nd h1 l1 (pe_callTy0 cr_set0K hg hm (by decide +kernel) : PE X (.Call (.Name "set" p2) [] [] p3) _) sw f1)
    (pss_cons (ps_for (pos := p19) ft.own ft.calm two (pg_name ft.nd h2 l2 f2)
      (pss_cons (ps_if (pos := p12) (pt_cmpR (pos := p9) or_sinK (pe_var h2 v2 d2 c2 : PE X (.Name xe p7) _) (pe_var h1 v1 d1 c1 : PE X (.Name xk p8) _) hmk) (pss_one (ps_ret (pos := p11) (pe_var h2 v2 d2 c2 : PE X (.Name xe p10) _))) pss_nil)
        (pss_one (ps_expr (pe_saddK (pe_var h1 v1 d1 c1 : PE X (.Name xk p14) _) (pa_cons (pe_var h2 v2 d2 c2 : PE X (.Name xe p16) _) pa_nil hs) hbase hfew hline hs hplain) sw2))) hfold)
      (pss_one (ps_ret (pos := p21) (pe_non (j := j) (pos := p20)))))
  refine PSs.imp raw fun Dn σ H ⟨Φ, τ, tm, qt, r, h⟩ => ?_
  unfold m_ft at h
  split at h
  · rename_i s
    split at h
    · rename_i xs ex
      split at h
      · rename_i d ed
        have e1 : ([s, S.non, S.non] : List S)[1]? = some .non := rfl
        have e2 : ([s, S.non, S.non] : List S)[2]? = some .non := rfl
        -- what is walked
        have walk : ∃ b vs, σ[0]? = some (some (.ref b)) ∧ FzL F.G Φ vs xs ∧ (SqL X.K H b vs ∨ SqT X.K H b vs) := by
          obtain ⟨v, q1, _, q2⟩ := r.at (show ([s, S.non, S.non] : List S)[0]? = some s from rfl)
          cases s with
          | val d1 =>
            obtain ⟨x, q3, q4⟩ := q2
            subst q3
            cases d1 with
            | lst ys => cases ex; cases q4 with
              | lst hh t => exact ⟨_, _, q1, t, .inl (.inl (.inl (r.le _ _ hh)))⟩
            | tup ys => cases ex; cases q4 with
              | tup hh t => exact ⟨_, _, q1, t, .inr (by rw [ft.K]; exact SqT.le hh r.le)⟩
            | _ => cases ex
          | lent i o =>
            cases o with
            | lst ys =>
              cases ex
              obtain ⟨b, q3, ⟨vs, q4, q5⟩, _⟩ := q2
              subst q3
              exact ⟨b, vs, q1, q5, .inl (.inl (.inl q4))⟩
            | ins _ _ => cases ex
          | _ => cases ex
        obtain ⟨b, vs, es0, fz, hsq⟩ := walk
        unfold ftD at ed
        split at ed
        · rename_i ks ek
          split at ed
          · rename_i hz
            cases ed
            have ev := keys_fz fz ek
            have lv : vs.length = ks.length := by rw [ev, List.length_map]
            refine ⟨rfl, fun a ha => ?_⟩
            have ne0 : (1 : Nat) ≠ 0 := by decide
            have hl : σ.length = 3 := r.len
            have r1 : Rl F Φ H (σ.set 1 (some (.ref a))) [s, .non, .non] tm := r.nonset qt e1
            -- the invariant
            have inv : ∀ (Sq : Hp → Prop) (stop' go' : Nat → Hp → Prop) (yl : Nat → Hp → V → Hp → Prop), (∀ o, Sq (upd H a o)) → (∀ i H2, vs.length ≤ i → Sq H2 → stop' i H2) → (∀ i H2 v, vs[i]? = some v → Sq H2 → go' i H2 ∧ ∀ x H3, yl i H2 x H3 → H3 = H2 ∧ x = v) →
                ∃ Wf : Nat → Nat → L2.St → Hp → Prop, (∃ m, Wf 0 m (σ.set 1 (some (.ref a))) (upd H a (SetK X.prog X.w a (fun _ => false) 0))) ∧ ∀ i m σ2 H2, Wf i m σ2 H2 →
                  (stop' i H2 ∧ Dn.rt .non H2) ∨ (go' i H2 ∧ ∃ N : L2.St → Hp → Prop, (∀ σ' H', N σ' H' → ∃ m', m' < m ∧ Wf (i + 1) m' σ' H') ∧ ∀ x H3, yl i H2 x H3 → gName 2 x σ2 H3 fun σ4 H4 =>
                    tSeq (tIfS (tTest (tOp (rSInK X.prog X.w false) (tVar 2) (tVar 1))) (tRet (tVar 2)) tNext) (tDrop (tSAddK X.prog X.w (tVar 1) (tCons (tVar 2) tNil))) { nx := N, ct := N, bk := fun σ H => Dn.rt .non H, rt := Dn.rt } σ4 H4) := by
              intro Sq stop' go' yl hSq hst hgo
              refine ⟨fun i m σ2 H2 => ∃ n, n ≤ i ∧ m = ks.length - i ∧ σ2[1]? = some (some (.ref a)) ∧ σ2.length = 3 ∧ Rl F Φ H σ2 [s, .non, .non] tm ∧ H2 = upd H a (SetK X.prog X.w a (seenB (ks.take i)) n) ∧ dup1 (ks.take i) (ks.drop i) = dup1 [] ks, ⟨ks.length, 0, Nat.le_refl _, rfl, ?_, ?_, r1, ?_, ?_⟩, ?_⟩
              · rw [List.getElem?_set_self (by omega)]
              · rw [List.length_set]; exact hl
              · rfl
              · simp
              rintro i m σ2 H2 ⟨n, hn, rfl, hs1, hl2, r2, rfl, hd⟩
              have sq := hSq (SetK X.prog X.w a (seenB (ks.take i)) n)
              by_cases hi : i < ks.length
              · right
                obtain ⟨k, hk⟩ : ∃ k, ks[i]? = some k := ⟨ks[i], List.getElem?_eq_getElem hi⟩
                have hv : vs[i]? = some (kV k) := by rw [ev, List.getElem?_map, hk, Option.map_some]
                obtain ⟨g1, g2⟩ := hgo i _ _ hv sq
                have hdr : ks.drop i = k :: ks.drop (i + 1) := by
                  rw [List.drop_eq_getElem_cons hi]
                  rw [List.getElem?_eq_getElem hi] at hk
                  rw [Option.some.inj hk]
                rw [hdr] at hd
                refine ⟨g1, fun σ' H' => ∃ n, n ≤ i + 1 ∧ σ'[1]? = some (some (.ref a)) ∧ σ'.length = 3 ∧ Rl F Φ H σ' [s, .non, .non] tm ∧ H' = upd H a (SetK X.prog X.w a (seenB (ks.take (i + 1))) n) ∧ dup1 (ks.take (i + 1)) (ks.drop (i + 1)) = dup1 [] ks, fun σ' H' ⟨n', q⟩ => ⟨ks.length - (i + 1), by omega, n', q.1, rfl, q.2⟩, fun x H3 hy => ?_⟩
                obtain ⟨rfl, rfl⟩ := g2 x H3 hy
                have a1 : (σ2.set 2 (some (kV k)))[1]? = some (some (.ref a)) := by rw [List.getElem?_set_ne (by decide)]; exact hs1
                have a2 : (σ2.set 2 (some (kV k)))[2]? = some (some (kV k)) := List.getElem?_set_self (by omega)
                have r3 : Rl F Φ H (σ2.set 2 (some (kV k))) [s, .non, .non] tm := r2.nonset qt e2
                refine ⟨_, a2, _, a1, k, a, _, n, rfl, rfl, upd_same, seenB (ks.take i) k, rfl, ?_⟩
                rw [dup1_cons] at hd
                by_cases hin : seenB (ks.take i) k = true
                · rw [if_pos hin] at hd
                  rw [if_pos hin]
                  refine ⟨_, a2, ?_⟩
                  rw [← hd] at h
                  exact h _ _ _ _ ((r3.beside ha).val (fz_key k))
                · rw [if_neg hin] at hd
                  rw [if_neg hin]
                  refine ⟨_, a1, ⟨a, _, n, rfl, upd_same⟩, _, a2, a, k, _, n, rfl, rfl, upd_same, ?_, ?_⟩
                  · show n + 1 < scanBound
                    have : (1002 : Nat) < scanBound := by decide
                    omega
                  · refine ⟨if seenB (ks.take i) k = true then n else n + 1, ?_, a1, by rw [List.length_set]; exact hl2, r3, ?_, ?_⟩
                    · split <;> omega
                    · rw [upd_upd, take_key hk]
                      congr 2
                      funext j
                      simp [seenB]
                    · rw [take_key hk]; exact hd
              · left
                have hle : ks.length ≤ i := by omega
                rw [List.drop_eq_nil_of_le hle] at hd
                have hd' : dup1 [] ks = none := hd.symm
                refine ⟨hst i _ (by omega) sq, ?_⟩
                rw [hd'] at h
                exact h _ _ _ _ ((r2.beside ha).val .non)
            refine ⟨.ref b, ?_, b, rfl, ?_⟩
            · rw [List.getElem?_set_ne (by decide)]; exact es0
            rcases hsq with hq | hq
            · refine .inl ⟨⟨vs, SqL.le hq (le_upd ha)⟩, ?_⟩
              obtain ⟨Wf, w0, wn⟩ := inv (fun H2 => SqL X.K H2 b vs) (Itl X.K b).stop (Itl X.K b).go (Itl X.K b).yld (fun o => SqL.le hq (le_upd ha)) (fun i H2 hle q => ⟨vs, q, hle⟩) (fun i H2 v hv q => ⟨⟨vs, v, q, hv⟩, fun x H3 ⟨e, y⟩ => ⟨e, by
                have := y vs q
                rw [hv] at this
                exact (Option.some.inj this).symm⟩⟩)
              exact ⟨Wf, w0, wn⟩
            · refine .inr ⟨⟨vs, SqT.le hq (le_upd ha)⟩, ?_⟩
              obtain ⟨Wf, w0, wn⟩ := inv (fun H2 => SqT X.K H2 b vs) (Itt X.K b).stop (Itt X.K b).go (Itt X.K b).yld (fun o => SqT.le hq (le_upd ha)) (fun i H2 hle q => ⟨vs, q, hle⟩) (fun i H2 v hv q => ⟨⟨vs, v, q, hv⟩, fun x H3 ⟨e, y⟩ => ⟨e, by
                have := y vs q
                rw [hv] at this
                exact (Option.some.inj this).symm⟩⟩)
              exact ⟨Wf, w0, wn⟩
          · cases ed
        · cases ed
      · exact h.elim
    · exact h.elim
  · exact h.elim
end
end Mi

/-! ### N1: plain laws of mirrors, of any law -/
namespace Mi
open PySem PySem.Spec PyProof.Rows L2
/-! #### steps -/
theorem lam_ap (cap : List Nat) (ml : M S) (g : Th → R S) (τ : List S) : eLam cap ml g τ = (M.bnd (takeAll (cap.map .ali)) fun _ => fun τ => match g (thk ml τ) with
  | .ok s => .ok (s, τ)
  | .exc c fs _ => .exc c fs τ
  | .stuck => .stuck) τ := rfl
theorem append_ap (mo : M S) (ms : M (List S)) (τ : List S) : eAppend mo ms τ = (M.bnd mo fun s => M.bnd (isL s) fun _ => M.bnd ms fun ss => match s, ss with
  | .ali k, [t] => M.bnd (take t) fun d => M.bnd (onL k (app1 d)) fun _ => M.ret (.val .non)
  | _, _ => fun _ => .stuck) τ := rfl
theorem app_of {d : D} {xs : List D} (h : xs.length ≤ 1000) : app1 d xs = some (xs ++ [d]) := by
  unfold app1
  rw [if_pos]
  rw [sizeLine_eq]; omega
theorem make_ap (c : Str) (mf : Fn) (ms : M (List S)) (τ : List S) : eMake c mf ms τ = (M.bnd ms fun ss => M.bnd (takeAll ss) fun ds => fun τ => match mf (.lent 0 (.ins c []) :: ds.map S.val) with
  | .ok (.val .non, .lent _ o :: _) => .ok (.own o, τ)
  | .exc cc fs _ => .exc cc fs τ
  | _ => .stuck) τ := rfl
theorem setF_ap (f : Str) (cs : List Str) (mv mo : M S) (τ : List S) : sSetF f cs mv mo τ = (M.bnd mv fun s => M.bnd (take s) fun d => M.bnd mo fun so => match so with
  | .ali k => M.bnd (onI k f cs d) fun _ => M.ret .nx
  | _ => fun _ => .stuck) τ := rfl
theorem own_ap (neg : Bool) (tab : Str → Option Fn) (okT : Str → Tg → Bool) (ma mb : M S) (τ : List S) : eOwn neg tab okT ma mb τ = (M.bnd ma fun s1 => M.bnd mb fun s2 => M.bnd (take s2) fun d2 => M.bnd (take s1) fun d1 => fun τ => match d1 with
  | .ins c fs => (match tab c, tagOf d2 with
    | some mf, some t => if okT c t = true then (match mf ([.ins c fs, d2].map S.val) with
      | .ok (.val (.bl q), _) => .ok (.val (.bl (neg ^^ q)), τ)
      | .exc cc gs _ => .exc cc gs τ
      | _ => .stuck) else .stuck
    | _, _ => .stuck)
  | _ => .stuck) τ := rfl
theorem meth_ap (m : Str) (tab : Str → Option Fn) (mo : M S) (ms : M (List S)) (τ : List S) : eMeth m tab mo ms τ = (M.bnd mo fun s0 => M.bnd (norm s0) fun s => fun τ => match insAt τ s with
  | some (c, fs) => (match tab c, fs.lookup m with
    | some mf, none => (M.bnd ms fun ss => onMeth mf s ss) τ
    | _, _ => .stuck)
  | none => .stuck) τ := rfl
theorem methD_ap (m : Str) (ix : List Nat) (nn : Nat) (dd : List D) (tab : Str → Option Fn) (mo : M S) (ms : M (List S)) (τ : List S) : eMethD m ix nn dd tab mo ms τ = (M.bnd mo fun s0 => M.bnd (norm s0) fun s => fun τ => match insAt τ s with
  | some (c, fs) => (match tab c, fs.lookup m with
    | some mf, none => (M.bnd ms fun ss => onMethD ix nn dd mf s ss) τ
    | _, _ => .stuck)
  | none => .stuck) τ := rfl
theorem norm_val (d : D) (τ : List S) : norm (.val d) τ = .ok (.val d, τ) := rfl
theorem norm_own (o : O) (τ : List S) : norm (.own o) τ = .ok (.val o.frz, τ) := rfl
theorem norm_ali (i : Nat) (τ : List S) : norm (.ali i) τ = .ok (.ali i, τ) := rfl
theorem onMethD_ap (ix : List Nat) (nn : Nat) (dd : List D) (mf : Fn) (s : S) (ss : List S) (τ : List S) : onMethD ix nn dd mf s ss τ = (M.bnd (takeAll ss) fun ds => if ds.length = nn then onMeth mf s ((pick .non ix (ds ++ dd)).map S.val) else fun _ => .stuck) τ := rfl
theorem onMeth_val (mf : Fn) (d : D) (ss : List S) (τ : List S) : onMeth mf (.val d) ss τ = (M.bnd (takeAll ss) fun ds => fun τ => match mf ((d :: ds).map S.val) with
    | .ok (r, _) => .ok (r, τ)
    | .exc c fs _ => .exc c fs τ
    | .stuck => .stuck) τ := rfl
theorem onMeth_ali (mf : Fn) (k : Nat) (ss : List S) (τ : List S) : onMeth mf (.ali k) ss τ = (M.bnd (takeAll ss) fun ds => fun τ => match τ[k]? with
    | some (.own o) => lendTo mf k o .own ds τ
    | some (.lent j o) => lendTo mf k o (.lent j) ds τ
    | _ => .stuck) τ := rfl
theorem lz_ap (ms : M (List S)) (τ : List S) : eListZip ms τ = (M.bnd ms fun ss => M.bnd (takeAll ss) fun ds => M.of (zipTT ds)) τ := rfl
theorem chain_ap (f g : D → D → Option S) (ma mb mc : M S) (τ : List S) : eChain f g ma mb mc τ = eChain f g ma mb mc τ := rfl
theorem thunk_raw (d : D) (τ : List S) : eThunk (.ok d) (.raw :: τ) = .ok (.val d, .raw :: τ) := rfl
theorem thunk_exc (c : Str) (fs : List (Str × D)) (τ : List S) : eThunk (.exc c fs) (.raw :: τ) = .exc c fs (.raw :: τ) := rfl
theorem thk_exc {ml : M S} {τ τ' : List S} {c : Str} {fs : List (Str × D)} (h : ml (only τ) = .exc c fs τ') : thk ml τ = .exc c fs := by
  unfold thk M.bnd
  rw [h]
theorem thk_val {ml : M S} {τ τ' : List S} {d : D} (h : ml (only τ) = .ok (.val d, τ')) : thk ml τ = .ok d := by
  unfold thk M.bnd
  rw [h]
  rfl
theorem thk_own {ml : M S} {τ τ' : List S} {o : O} (h : ml (only τ) = .ok (.own o, τ')) : thk ml τ = .ok o.frz := by
  unfold thk M.bnd
  rw [h]
  rfl
theorem iseq_val (d : D) {ma : M S} {τ τ1 : List S} {xs : List D} (h : ma τ = .ok (.val d, τ1)) (hi : items d = some xs) : iSeq ma τ = .ok ((xs, noPin), τ1) := by
  simp only [iSeq, bnd_ap, h, take_val, of_ap, hi, M.ret]
theorem iseq_own (o : O) {ma : M S} {τ τ1 : List S} {xs : List D} (h : ma τ = .ok (.own o, τ1)) (hi : items o.frz = some xs) : iSeq ma τ = .ok ((xs, noPin), τ1) := by
  simp only [iSeq, bnd_ap, h, take_own, of_ap, hi, M.ret]
theorem iseq_ali (o : O) {i : Nat} {ma : M S} {τ τ1 : List S} {xs : List D} (h : ma τ = .ok (.ali i, τ1)) (ho : τ1[i]? = some (.own o)) (hi : items o.frz = some xs) : iSeq ma τ = .ok ((xs, noPin), τ1.set i (.val o.frz)) := by
  simp only [iSeq, bnd_ap, h, ho, take_ali, of_ap, hi, M.ret]
theorem iseq_vali (d : D) {i : Nat} {ma : M S} {τ τ1 : List S} {xs : List D} (h : ma τ = .ok (.ali i, τ1)) (ho : τ1[i]? = some (.val d)) (hi : items d = some xs) : iSeq ma τ = .ok ((xs, noPin), τ1) := by
  simp only [iSeq, bnd_ap, h, ho, take_ali, of_ap, hi, M.ret]
/-- a comprehension that reads only -/
theorem ecomp_map {α : Type} {own : List Nat} {mi : M (List D × Pin)} {g : MG} {me : M S} (xs : List α) (f h : α → D) {τ τ1 τ0 : List S} (hi : mi τ = .ok ((xs.map f, noPin), τ1)) (hp : own.all (fun i => plainS (τ1.getD i .non)) = true) (hw : wipeT own τ1 = τ0)
    (each : ∀ x ∈ xs, ∃ τ2 τ3, g (.val (f x)) τ0 = .ok ((), τ2) ∧ M.bnd me take τ2 = .ok (h x, τ3) ∧ wipeT own τ3 = τ0) (hl : xs.length ≤ 1000) (hr : realOk τ0 τ0 = true) : eComp own mi g bYes me τ = .ok (.own (.lst (xs.map h)), restT own τ1 τ0) := by
  rw [ecomp_ap _ _ _ _ _ _ hi hp, hw]
  have go : ∀ (ys : List α) (acc : List D), (∀ x ∈ ys, x ∈ xs) → acc.length + ys.length ≤ 1000 → compM own noPin g bYes me (ys.map f) acc τ0 = .ok (acc ++ ys.map h, τ0) := by
    intro ys
    induction ys with
    | nil => intro acc _ _; rw [List.map_nil, comp_nil, List.map_nil, List.append_nil]
    | cons y ys ih =>
      intro acc hm hl
      obtain ⟨τ2, τ3, e1, e2, e3⟩ := each y (hm y List.mem_cons_self)
      have hf : fitL (acc.length + 1) = some () := by
        unfold fitL
        rw [if_pos]
        rw [List.length_cons] at hl
        rw [sizeLine_eq]
        omega
      rw [List.map_cons, comp_cons]
      obtain ⟨s, τ4, e4, e5⟩ := bnd_ok e2
      simp only [e1, byes_ap, bnd_ap, e4, e5, of_ap, hf, M.ret, e3]
      rw [ih (acc ++ [h y]) (fun x hx => hm x (List.mem_cons_of_mem _ hx)) (by rw [List.length_append, List.length_cons, List.length_nil]; rw [List.length_cons] at hl; omega)]
      rw [List.map_cons, List.append_assoc]
      rfl
  rw [go xs [] (fun _ h => h) (by simpa using hl)]
  simp only [hr, if_true, List.nil_append]
/-! #### plain data -/
/-- data without instances, of few depth -/
inductive PlN : Nat → D → Prop
  | non {n : Nat} : PlN n .non
  | bl {n : Nat} (b : Bool) : PlN n (.bl b)
  | int {n : Nat} (i : Int) : PlN n (.int i)
  | str {n : Nat} (x : Str) (h : SeqAt.shaped (.str x) = true) : PlN n (.str x)
  | lst {n : Nat} {xs : List D} : (∀ x ∈ xs, PlN n x) → PlN (n + 1) (.lst xs)
  | tup {n : Nat} {xs : List D} : (∀ x ∈ xs, PlN n x) → PlN (n + 1) (.tup xs)
def ShP (n : Nat) (p : PyData) : Prop := PyData.canLay0 p = true ∧ PyData.depth p ≤ n
theorem pys_all {n : Nat} : ∀ {xs : List D}, (∀ x ∈ xs, ∃ p, x.py = some p ∧ ShP n p ∧ PyData.eqv p p = true) → ∃ ps, D.pys xs = some ps ∧ PyData.canLayAll0 ps = true ∧ PyData.depthAll ps ≤ n ∧ PyData.eqvAll ps ps = true
  | [], _ => ⟨[], rfl, rfl, Nat.zero_le _, rfl⟩
  | x :: xs, h => by
    obtain ⟨p, e, ⟨a, b⟩, c⟩ := h x List.mem_cons_self
    obtain ⟨ps, e2, a2, b2, c2⟩ := pys_all (xs := xs) fun y hy => h y (List.mem_cons_of_mem _ hy)
    refine ⟨p :: ps, by simp only [D.pys, e, e2], ?_, ?_, ?_⟩
    · simp only [PyData.canLayAll0, a, a2, Bool.and_self]
    · simp only [PyData.depthAll]; omega
    · simp only [PyData.eqvAll, c, c2, Bool.and_self]
theorem PlN.py : ∀ {n : Nat} {d : D}, PlN n d → ∃ p, d.py = some p ∧ ShP n p ∧ PyData.eqv p p = true := by
  intro n d h
  induction h with
  | non => exact ⟨_, rfl, ⟨rfl, Nat.zero_le _⟩, rfl⟩
  | bl b => exact ⟨_, rfl, ⟨rfl, Nat.zero_le _⟩, by cases b <;> rfl⟩
  | int i => exact ⟨_, rfl, ⟨rfl, Nat.zero_le _⟩, by simp [PyData.eqv]⟩
  | str x h =>
    refine ⟨_, rfl, ⟨SeqAt.canLay_of_shaped h, Nat.zero_le _⟩, by simp [PyData.eqv]⟩
  | lst _ ih =>
    obtain ⟨ps, e, a, b, c⟩ := pys_all ih
    refine ⟨.list ps, by simp only [D.py, e, Option.map_some], ⟨by simp only [PyData.canLay0, a], by simp only [PyData.depth]; omega⟩, by simp [PyData.eqv, c]⟩
  | tup _ ih =>
    obtain ⟨ps, e, a, b, c⟩ := pys_all ih
    refine ⟨.tuple ps, by simp only [D.py, e, Option.map_some], ⟨by simp only [PyData.canLay0, a], by simp only [PyData.depth]; omega⟩, by simp [PyData.eqv, c]⟩
theorem eq_self {n : Nat} {d : D} (h : PlN n d) (hn : n ≤ 64) : eqD d d = some true := by
  obtain ⟨p, e, ⟨a, b⟩, c⟩ := h.py
  have sh : SeqAt.shaped p = true := by
    unfold SeqAt.shaped
    rw [a, decide_eq_true (by omega)]
    rfl
  unfold eqD
  simp only [e, sh, and_self, if_true, c]
theorem fEq_self {n : Nat} {d : D} (h : PlN n d) (hn : n ≤ 64) : fEq d d = some (.val (.bl true)) := by
  simp only [fEq, eq_self h hn, Option.map_some]
theorem fNe_self {n : Nat} {d : D} (h : PlN n d) (hn : n ≤ 64) : fNe d d = some (.val (.bl false)) := by
  simp only [fNe, eq_self h hn, Option.map_some, Bool.not_true]
theorem eq_ints (i j : Int) : eqD (.int i) (.int j) = some (decide (i = j)) := by
  unfold eqD
  have s : ∀ i : Int, SeqAt.shaped (.int i) = true := fun i => rfl
  simp only [D.py, s, and_self, if_true]
  by_cases h : i = j
  · subst h; simp [PyData.eqv]
  · simp [PyData.eqv, h]
theorem fEq_int (i j : Int) : fEq (.int i) (.int j) = some (.val (.bl (decide (i = j)))) := by
  simp only [fEq, eq_ints, Option.map_some]
theorem fNe_int (i j : Int) : fNe (.int i) (.int j) = some (.val (.bl (!decide (i = j)))) := by
  simp only [fNe, eq_ints, Option.map_some]
/-- a list beside the empty one -/
theorem eq_nil {n : Nat} {xs : List D} (h : ∀ x ∈ xs, PlN n x) (hn : n < 64) : eqD (.lst xs) (.lst []) = some xs.isEmpty := by
  obtain ⟨ps, e, a, b, c⟩ := pys_all fun x hx => (h x hx).py
  have s1 : SeqAt.shaped (.list ps) = true := by
    have d1 : (PyData.list ps).depth ≤ 64 := by simp only [PyData.depth]; omega
    unfold SeqAt.shaped
    rw [decide_eq_true d1]
    simp only [PyData.canLay0, a, Bool.and_self]
  have s0 : SeqAt.shaped (.list []) = true := by decide
  unfold eqD
  simp only [D.py, e, Option.map_some, D.pys, s1, s0, and_self, if_true]
  cases xs with
  | nil =>
    cases e
    rfl
  | cons x xs =>
    cases ps with
    | nil =>
      exfalso
      simp only [D.pys] at e
      split at e <;> cases e
    | cons p ps => simp [PyData.eqv, PyData.eqvAll]
theorem fNe_nil {n : Nat} {xs : List D} (h : ∀ x ∈ xs, PlN n x) (hn : n < 64) : fNe (.lst xs) (.lst []) = some (.val (.bl (!xs.isEmpty))) := by
  simp only [fNe, eq_nil h hn, Option.map_some]
theorem fEq_nil {n : Nat} {xs : List D} (h : ∀ x ∈ xs, PlN n x) (hn : n < 64) : fEq (.lst xs) (.lst []) = some (.val (.bl xs.isEmpty)) := by
  simp only [fEq, eq_nil h hn, Option.map_some]
/-! #### ints -/
theorem log_lt {i : Int} {n : Nat} (hn : 0 < n) (h : i.natAbs < 2 ^ n) : i.natAbs.log2 < n := by
  by_cases hz : i.natAbs = 0
  · rw [hz]; exact hn
  · exact (Nat.log2_lt hz).mpr h
/-- whole numbers of a thousand bits -/
def Sm (i : Int) : Prop := i.natAbs < 2 ^ 1000
theorem mul_ok {i j : Int} (h1 : Sm i) (h2 : Sm j) : fMul (.int i) (.int j) = some (.val (.int (i * j))) := by
  have : mulFits i j = true := by
    unfold mulFits
    rw [Bool.or_eq_true]
    left
    have a := log_lt (by decide) h1
    have b := log_lt (by decide) h2
    exact decide_eq_true (by omega)
  simp only [fMul, this, if_true, sInt]
theorem sm_of {i : Int} (h : i.natAbs < 2 ^ 64) : Sm i := Nat.lt_of_lt_of_le h (Nat.pow_le_pow_right (by decide) (by decide))
theorem sm_le {i : Int} {k : Nat} (h : i.natAbs < 2 ^ k) (hk : k ≤ 1000) : Sm i := Nat.lt_of_lt_of_le h (Nat.pow_le_pow_right (by decide) hk)
theorem ab_mul {a b : Int} {p q : Nat} (h1 : a.natAbs < 2 ^ p) (h2 : b.natAbs < 2 ^ q) : (a * b).natAbs < 2 ^ (p + q) := by
  rw [Int.natAbs_mul, Nat.pow_add]
  exact Nat.mul_lt_mul'' h1 h2
theorem ab_add {a b : Int} {p : Nat} (h1 : a.natAbs < 2 ^ p) (h2 : b.natAbs < 2 ^ p) : (a + b).natAbs < 2 ^ (p + 1) := by
  rw [Nat.pow_succ]
  omega
theorem ab_sub {a b : Int} {p : Nat} (h1 : a.natAbs < 2 ^ p) (h2 : b.natAbs < 2 ^ p) : (a - b).natAbs < 2 ^ (p + 1) := by
  rw [Nat.pow_succ]
  omega
theorem mul_l {i j : Int} (h : i.natAbs < 2 ^ 60) : fMul (.int i) (.int j) = some (.val (.int (i * j))) := by
  have : mulFits i j = true := by
    unfold mulFits
    rw [Bool.or_eq_true]
    right
    rw [Bool.and_eq_true]
    exact ⟨decide_eq_true (by omega), decide_eq_true (by omega)⟩
  simp only [fMul, this, if_true, sInt]
theorem pow_ok {i j : Int} (h : i.natAbs < 2 ^ 64) (h0 : 0 ≤ j) (h1 : j ≤ 100) : fPow (.int i) (.int j) = some (.val (.int (i ^ j.toNat))) := by
  have b : Builtin.Int.intBits i ≤ 64 := by
    unfold Builtin.Int.intBits
    split
    · omega
    · rename_i hz
      have : i.natAbs.log2 < 64 := (Nat.log2_lt (by simpa using hz)).mpr h
      omega
  have : powFits i j = true := by
    unfold powFits
    have h2 : (Builtin.Int.intBits i : Int) * j ≤ 64 * 100 := Int.mul_le_mul (by omega) h1 h0 (by omega)
    rw [decide_eq_true h0, decide_eq_true (by omega : (Builtin.Int.intBits i : Int) * j ≤ 2 ^ 27)]
    rfl
  simp only [fPow, this, if_true, sInt]
theorem set2 (a b c d : D) : setD (.int 2) d [a, b, c] = some [a, b, d] := rfl
theorem set1 (a b c d : D) : setD (.int 1) d [a, b, c] = some [a, d, c] := rfl
theorem ix_ints {cells : List Int} {k : Int} (h0 : 0 ≤ k) (h1 : k < cells.length) : ∃ c : Int, atI (cells.map D.int) k = some (.int c) := by
  obtain ⟨j, rfl⟩ := Int.eq_ofNat_of_zero_le h0
  have hj : j < cells.length := by omega
  refine ⟨cells[j], ?_⟩
  have hl : ((j : Nat) : Int) < ((cells.map D.int).length : Int) := by rw [List.length_map]; omega
  simp only [atI, ixN, hl, if_true, Int.toNat_natCast, Option.bind_some, List.getElem?_map]
  rw [if_pos (by omega)]
  simp only [Option.bind_some, Int.toNat_natCast, List.getElem?_map, List.getElem?_eq_getElem hj, Option.map_some]
theorem atI_mem {α : Type} {xs : List α} {v : Int} (h0 : 0 ≤ v) (h1 : v < xs.length) : ∃ x, atI xs v = some x ∧ x ∈ xs := by
  obtain ⟨j, rfl⟩ := Int.eq_ofNat_of_zero_le h0
  have hj : j < xs.length := by omega
  refine ⟨xs[j], ?_, List.getElem_mem hj⟩
  simp only [atI, ixN]
  rw [if_pos (by omega), if_pos h1]
  simp only [Int.toNat_natCast, Option.bind_some, List.getElem?_eq_getElem hj]
theorem pl_ints {n : Nat} {l : List Int} : ∀ x ∈ l.map D.int, PlN n x := fun x hx => by
  obtain ⟨i, _, rfl⟩ := List.mem_map.mp hx
  exact .int i
theorem fit_of {n : Nat} (h : n ≤ 1000) : fitL n = some () := by
  unfold fitL
  rw [if_pos]
  rw [sizeLine_eq]; omega
theorem atI_0 {α : Type} (a : α) (l : List α) : atI (a :: l) 0 = some a := by simp [atI, ixN]
theorem atI_1 {α : Type} (a b : α) (l : List α) : atI (a :: b :: l) 1 = some b := by
  have h : (1 : Int) < ((a :: b :: l).length : Int) := by simp only [List.length_cons]; omega
  simp only [atI, ixN, h, if_true]
  rfl
theorem atI_2 {α : Type} (a b c : α) (l : List α) : atI (a :: b :: c :: l) 2 = some c := by
  have h : (2 : Int) < ((a :: b :: c :: l).length : Int) := by simp only [List.length_cons]; omega
  simp only [atI, ixN, h, if_true]
  rfl
theorem eq_int (i j : Int) : fEq (.int i) (.int j) = some (.val (.bl (i == j))) := by
  simp [fEq, eqD, D.py, SeqAt.shaped, PyData.canLay0, PyData.depth, PyData.eqv]
theorem ne_int (i j : Int) : fNe (.int i) (.int j) = some (.val (.bl (!(i == j)))) := by
  simp [fNe, eqD, D.py, SeqAt.shaped, PyData.canLay0, PyData.depth, PyData.eqv]
theorem ne_pair (a b c d : Int) : fNe (.tup [.int a, .int b]) (.tup [.int c, .int d]) = some (.val (.bl (!((a == c) && (b == d))))) := by
  simp [fNe, eqD, D.py, D.pys, SeqAt.shaped, PyData.canLay0, PyData.depth, PyData.canLayAll0, PyData.depthAll, PyData.eqv, PyData.eqvAll]
theorem eq_pair (a b c d : Int) : fEq (.tup [.int a, .int b]) (.tup [.int c, .int d]) = some (.val (.bl ((a == c) && (b == d)))) := by
  simp [fEq, eqD, D.py, D.pys, SeqAt.shaped, PyData.canLay0, PyData.depth, PyData.canLayAll0, PyData.depthAll, PyData.eqv, PyData.eqvAll]
theorem mod_ok {i j : Int} (h : 0 < j) : fMod (.int i) (.int j) = some (.val (.int (i % j))) := by
  simp only [fMod, h, if_true, sInt]
theorem abs_eq (i : Int) : (if i < 0 then -i else i) = (i.natAbs : Int) := by
  split <;> omega
theorem div_ok {i j : Int} (h : j ≠ 0) (h2 : j.natAbs < 2 ^ 1000) : fDiv (.int i) (.int j) = some (.val (.int (i.fdiv j))) := by
  have lg : j.natAbs.log2 < 9000 := by
    have := (Nat.log2_lt (n := j.natAbs) (k := 1000) (by omega)).mpr h2
    omega
  by_cases hp : 0 < j
  · simp only [fDiv, hp, lg, true_and, if_true, sInt]
    rw [Int.fdiv_eq_ediv_of_nonneg i (by omega)]
  · have hn : j < 0 := by omega
    simp only [fDiv, hp, hn, lg, false_and, true_and, if_false, if_true, sInt]
/-! #### loops -/
theorem while_end {c : M Bool} {body : M Fl} {τ τ1 : List S} (h : c τ = .ok (false, τ1)) : sWhile c body τ = .ok (.nx, τ1) := by
  have e : whileN c body 1 τ = .ok (some .nx, τ1) := by
    simp only [whileN, M.bnd, h, M.ret, Bool.false_eq_true, if_false]
  rw [while_eq (n := 1) (fun τ' z => by rw [e] at z; cases z), e]
theorem while_step {c : M Bool} {body : M Fl} {τ τ1 τ2 : List S} {r : R (Fl × List S)} {n : Nat} (h : c τ = .ok (true, τ1)) (hb : body τ1 = .ok (.nx, τ2)) {f : Fl} {τ3 : List S} (hw : whileN c body n τ2 = .ok (some f, τ3)) : whileN c body (n + 1) τ = .ok (some f, τ3) := by
  simp only [whileN, M.bnd, h, hb, if_true]
  exact hw
theorem while_ok {c : M Bool} {body : M Fl} {τ τ' : List S} {n : Nat} {f : Fl} (h : whileN c body n τ = .ok (some f, τ')) : sWhile c body τ = .ok (f, τ') := by
  rw [while_eq (n := n) (fun τ' z => by rw [h] at z; cases z), h]
end Mi

/-! ### N2: mirrors at slots, by parts -/
namespace Mi
open PySem PySem.Spec PyProof.Rows L2
section
variable {m n : M Fl} {c t : M Bool} {ma mb e : M S} {ms : M (List S)} {τ τ1 τ2 τ3 τ4 : List S} {s s1 s2 : S} {d d1 d2 : D} {ss : List S} {ds : List D}
theorem seq_nx (h : m τ = .ok (.nx, τ1)) : sSeq m n τ = n τ1 := by rw [seq_ap, h]
theorem seq_rt (h : m τ = .ok (.rt s, τ1)) : sSeq m n τ = .ok (.rt s, τ1) := by rw [seq_ap, h]
theorem if_skip (h : c τ = .ok (false, τ1)) : sIf c m sNil τ = .ok (.nx, τ1) := by
  simp only [sif_ap, bnd_ap, h, Bool.false_eq_true, if_false, nil_ap]
theorem if_f (h : c τ = .ok (false, τ1)) : sIf c m n τ = n τ1 := by
  simp only [sif_ap, bnd_ap, h, Bool.false_eq_true, if_false]
theorem if_t (h : c τ = .ok (true, τ1)) : sIf c m n τ = m τ1 := by
  simp only [sif_ap, bnd_ap, h, if_true]
theorem or_ff (h : c τ = .ok (false, τ1)) (k : t τ1 = .ok (false, τ2)) : bOr c t τ = .ok (false, τ2) := by
  simp only [bor_ap, bnd_ap, h, Bool.false_eq_true, if_false, k]
theorem or_t (h : c τ = .ok (true, τ1)) : bOr c t τ = .ok (true, τ1) := by
  simp only [bor_ap, bnd_ap, h, if_true, M.ret]
theorem and_f (h : c τ = .ok (false, τ1)) : bAnd c t τ = .ok (false, τ1) := by
  simp only [band_ap, bnd_ap, h, Bool.false_eq_true, if_false, M.ret]
theorem and_t {b : Bool} (h : c τ = .ok (true, τ1)) (k : t τ1 = .ok (b, τ2)) : bAnd c t τ = .ok (b, τ2) := by
  simp only [band_ap, bnd_ap, h, if_true, k]
theorem bv {b : Bool} (h : e τ = .ok (.val (.bl b), τ1)) : bVal e τ = .ok (b, τ1) := by
  simp only [bval_ap, bnd_ap, h, of_ap, asB]
theorem nt {b : Bool} (h : c τ = .ok (b, τ1)) : bNot c τ = .ok (!b, τ1) := by
  simp only [bnot_ap, bnd_ap, h, M.ret]
theorem eand_t {b : Bool} (h : ma τ = .ok (.val (.bl true), τ1)) (k : mb τ1 = .ok (.val (.bl b), τ2)) : eAnd ma mb τ = .ok (.val (.bl b), τ2) := by
  simp only [and_ap, bnd_ap, h, of_ap, asB, if_true, k]
theorem op_v {f : D → D → Option S} (h1 : ma τ = .ok (s1, τ1)) (h2 : mb τ1 = .ok (s2, τ2)) (p1 : peek s1 τ2 = .ok (d1, τ2)) (p2 : peek s2 τ2 = .ok (d2, τ2)) (hf : f d1 d2 = some s) : eOp f ma mb τ = .ok (s, τ2) := by
  simp only [op_ap, bnd_ap, h1, h2, p1, p2, of_ap, hf]
theorem ne_ff {k : Nat} (h1 : ma τ = .ok (s1, τ1)) (h2 : mb τ1 = .ok (s2, τ2)) (p1 : peek s1 τ2 = .ok (d, τ2)) (p2 : peek s2 τ2 = .ok (d, τ2)) (pl : PlN k d) (hk : k ≤ 64) : eOp fNe ma mb τ = .ok (.val (.bl false), τ2) := op_v h1 h2 p1 p2 (fNe_self pl hk)
theorem eq_tt {k : Nat} (h1 : ma τ = .ok (s1, τ1)) (h2 : mb τ1 = .ok (s2, τ2)) (p1 : peek s1 τ2 = .ok (d, τ2)) (p2 : peek s2 τ2 = .ok (d, τ2)) (pl : PlN k d) (hk : k ≤ 64) : eOp fEq ma mb τ = .ok (.val (.bl true), τ2) := op_v h1 h2 p1 p2 (fEq_self pl hk)
theorem var_v {i : Nat} (h : τ[i]? = some (.val d)) : eVar i τ = .ok (.val d, τ) := by rw [var_ap, h]
theorem var_o {i : Nat} {o : O} (h : τ[i]? = some (.own o)) : eVar i τ = .ok (.ali i, τ) := by rw [var_ap, h]
theorem pk_v : peek (.val d) τ = .ok (d, τ) := rfl
theorem pk_o {o : O} : peek (.own o) τ = .ok (o.frz, τ) := rfl
theorem pk_a {i : Nat} {o : O} (h : τ[i]? = some (.own o)) : peek (.ali i) τ = .ok (o.frz, τ) := by rw [pk_ali, h]
theorem tk_v : take (.val d) τ = .ok (d, τ) := rfl
theorem tk_o {o : O} : take (.own o) τ = .ok (o.frz, τ) := rfl
theorem tk_a {i : Nat} {o : O} (h : τ[i]? = some (.own o)) : take (.ali i) τ = .ok (o.frz, τ.set i (.val o.frz)) := by rw [take_ali, h]
theorem call_1 {mf : Fn} {out : List S} (h1 : ma τ = .ok (s1, τ1)) (t1 : take s1 τ1 = .ok (d1, τ2)) (hf : mf [.val d1] = .ok (s, out)) : eCallV mf (lCons ma lNil) τ = .ok (s, τ2) := by
  simp only [cv_ap, lc_ap, ln_ap, bnd_ap, h1, M.ret, ta_cons, ta_nil, t1, List.map_cons, List.map_nil, hf]
theorem call_3 {mf : Fn} {out : List S} {mc : M S} {s3 : S} {d3 : D} {τ5 τ6 : List S} (h1 : ma τ = .ok (s1, τ1)) (h2 : mb τ1 = .ok (s2, τ2)) (h3 : mc τ2 = .ok (s3, τ3)) (t1 : take s1 τ3 = .ok (d1, τ4)) (t2 : take s2 τ4 = .ok (d2, τ5)) (t3 : take s3 τ5 = .ok (d3, τ6)) (hf : mf [.val d1, .val d2, .val d3] = .ok (s, out)) : eCallV mf (lCons ma (lCons mb (lCons mc lNil))) τ = .ok (s, τ6) := by
  simp only [cv_ap, lc_ap, ln_ap, bnd_ap, h1, h2, h3, M.ret, ta_cons, ta_nil, t1, t2, t3, List.map_cons, List.map_nil, hf]
theorem asg_v {i : Nat} (h : ma τ = .ok (.val d, τ1)) : sAsg i ma τ = .ok (.nx, τ1.set i (.val d)) := by
  simp only [asg_ap, bnd_ap, h, give_val]
theorem asg_o {i : Nat} {o : O} (h : ma τ = .ok (.own o, τ1)) : sAsg i ma τ = .ok (.nx, τ1.set i (.own o)) := by
  simp only [asg_ap, bnd_ap, h, give_own]
theorem ret_v (h : ma τ = .ok (.val d, τ1)) : sRet ma τ = .ok (.rt (.val d), τ1) := by
  simp only [ret_ap, bnd_ap, h, give_val, M.ret]
theorem expr_v (h : ma τ = .ok (s, τ1)) : sExpr ma τ = .ok (.nx, τ1) := by
  simp only [expr_ap, bnd_ap, h, M.ret]
theorem lm_2 (h1 : ma τ = .ok (s1, τ1)) (h2 : mb τ1 = .ok (s2, τ2)) : lCons ma (lCons mb lNil) τ = .ok ([s1, s2], τ2) := by
  simp only [lc_ap, ln_ap, bnd_ap, h1, h2, M.ret]
theorem lm_1 (h1 : ma τ = .ok (s1, τ1)) : lCons ma lNil τ = .ok ([s1], τ1) := by
  simp only [lc_ap, ln_ap, bnd_ap, h1, M.ret]
theorem app_v {i : Nat} {xs : List D} {s : S} (ho : τ[i]? = some (.own (.lst xs))) (h : ma τ = .ok (s, τ1)) (ht : take s τ1 = .ok (d, τ2)) (ho2 : τ2[i]? = some (.own (.lst xs))) (hl : xs.length ≤ 1000) : sExpr (eAppend (eVar i) (lCons ma lNil)) τ = .ok (.nx, τ2.set i (.own (.lst (xs ++ [d])))) := by
  refine expr_v (s := .val .non) ?_
  simp only [append_ap, bnd_ap, var_o ho, isL, ho, lc_ap, ln_ap, h, M.ret, ht, onL, ho2, app_of hl]
theorem at_seq {r : R (Fl × List S)} (h : m τ = .ok (.nx, τ1)) (k : n τ1 = r) : sSeq m n τ = r := by rw [seq_nx h, k]
theorem run_1 {np nn : Nat} {m : M Fl} {ss ss' τ : List S} {s : S} (hl : ss.length = np) (h : m (ss ++ List.replicate (nn - ss.length) .non) = .ok (.rt s, τ)) (hr : retS s = true) (hb : back ss τ = some ss') : runFn np nn m ss = .ok (s, ss') := by
  rw [run_ap, if_neg (by rw [hl]; exact fun z => z rfl), h]
  simp only [hr, if_true, hb]
theorem call_l {mf : Fn} {o o' : O} {out : List S} {j : Nat} (h : mf [.lent 0 o] = .ok (s, .lent 0 o' :: out)) : eCallL mf (lCons (eVar 0) lNil) (.lent j o :: τ) = .ok (s, .lent j o' :: τ) := by
  simp only [cl_ap, lc_ap, ln_ap, bnd_ap, var_ap, M.ret, ta_nil, List.getElem?_cons_zero, lendTo, List.map_nil, h, hand, List.set_cons_zero]
theorem call_l1 {mf : Fn} {o o' : O} {out : List S} {j : Nat} (h1 : ma (.lent j o :: τ) = .ok (s1, .lent j o :: τ1)) (t1 : take s1 (.lent j o :: τ1) = .ok (d1, .lent j o :: τ2)) (h : mf [.lent 0 o, .val d1] = .ok (s, .lent 0 o' :: out)) : eCallL mf (lCons (eVar 0) (lCons ma lNil)) (.lent j o :: τ) = .ok (s, .lent j o' :: τ2) := by
  have e : eVar 0 (.lent j o :: τ) = .ok (.ali 0, .lent j o :: τ) := rfl
  simp only [cl_ap, lc_ap, ln_ap, bnd_ap, e, h1, M.ret, ta_cons, ta_nil, t1, List.getElem?_cons_zero, lendTo, List.map_nil, List.map_cons, h, hand, List.set_cons_zero]
theorem asgT_2 {i j : Nat} {a b : D} (h : ma τ = .ok (.val (.tup [a, b]), τ1)) : sAsgT (gTupM 2 (gsCons (gNam i) (gsCons (gNam j) gsEnd))) ma τ = .ok (.nx, (τ1.set i (.val a)).set j (.val b)) := by
  simp only [asgT_ap, bnd_ap, h, give_val, gtup_ap, pk_val, of_ap, unpk, List.length_cons, List.length_nil, if_true, gcons_ap, gnam_ap, gend_ap, M.ret]
theorem asgT_2o {i j : Nat} {a b : D} (h : ma τ = .ok (.own (.lst [a, b]), τ1)) : sAsgT (gTupM 2 (gsCons (gNam i) (gsCons (gNam j) gsEnd))) ma τ = .ok (.nx, (τ1.set i (.val a)).set j (.val b)) := by
  simp only [asgT_ap, bnd_ap, h, give_own, gtup_ap, pk_own, O.frz, of_ap, unpk, List.length_cons, List.length_nil, if_true, gcons_ap, gnam_ap, gend_ap, M.ret]
theorem cb_2 {g : List D → Option S} {s' : S} (h1 : ma τ = .ok (s1, τ1)) (h2 : mb τ1 = .ok (s2, τ2)) (p1 : peek s1 τ2 = .ok (d1, τ2)) (p2 : peek s2 τ2 = .ok (d2, τ2)) (hg : g [d1, d2] = some s') : eCB g (lCons ma (lCons mb lNil)) τ = .ok (s', τ2) := by
  simp only [cb_ap, bnd_ap, lm_2 h1 h2, pa_cons', pa_nil', p1, p2, M.ret, of_ap, hg]
theorem cb_1 {g : List D → Option S} {s' : S} (h1 : ma τ = .ok (s1, τ1)) (p1 : peek s1 τ1 = .ok (d1, τ1)) (hg : g [d1] = some s') : eCB g (lCons ma lNil) τ = .ok (s', τ1) := by
  simp only [cb_ap, bnd_ap, lm_1 h1, pa_cons', pa_nil', p1, M.ret, of_ap, hg]
theorem lit_v {d : D} : eLit d τ = .ok (.val d, τ) := rfl
theorem un_v {g : D → Option S} {s' : S} (h1 : ma τ = .ok (s1, τ1)) (p1 : peek s1 τ1 = .ok (d1, τ1)) (hg : g d1 = some s') : eUn g ma τ = .ok (s', τ1) := by
  simp only [un_ap, bnd_ap, h1, p1, of_ap, hg]
theorem meth_exc {m : Str} {tab : Str → Option Fn} {c : Str} {fs : List (Str × D)} (h : ma τ = .exc c fs τ1) : eMeth m tab ma ms τ = .exc c fs τ1 := by
  simp only [meth_ap, bnd_ap, h]
end
end Mi

/-! ### N3: comprehensions that read, that choose, that draw -/
namespace Mi
open PySem PySem.Spec PyProof.Rows L2
theorem rest_wipe (own : List Nat) (τ : List S) : restT own τ (wipeT own τ) = τ := by
  apply List.ext_getElem?
  intro j
  unfold restT
  rw [List.getElem?_map]
  by_cases hj : j < τ.length
  · rw [List.getElem?_range hj, Option.map_some, List.getElem?_eq_getElem hj]
    split
    · rw [List.getD_eq_getElem?_getD, List.getElem?_eq_getElem hj, Option.getD_some]
    · rename_i h
      have h' : j ∉ own := by simpa using h
      rw [List.getD_eq_getElem?_getD, wipeT_get, if_neg h', List.getElem?_eq_getElem hj, Option.getD_some]
  · rw [List.getElem?_eq_none (by rw [List.length_range]; omega), List.getElem?_eq_none (by omega), Option.map_none]
/-- a comprehension that reads and chooses -/
theorem ecompF {α : Type} {own : List Nat} {mi : M (List D × Pin)} {g : MG} {test : M Bool} {me : M S} (xs : List α) (f h : α → D) (p : α → Bool) {τ τ1 : List S} (hi : mi τ = .ok ((xs.map f, noPin), τ1)) (hp : own.all (fun i => plainS (τ1.getD i .non)) = true)
    (each : ∀ x ∈ xs, ∃ τ2 τ3, g (.val (f x)) (wipeT own τ1) = .ok ((), τ2) ∧ test τ2 = .ok (p x, τ3) ∧ (p x = false → wipeT own τ3 = wipeT own τ1) ∧ (p x = true → ∃ τ4, M.bnd me take τ3 = .ok (h x, τ4) ∧ wipeT own τ4 = wipeT own τ1)) (hl : xs.length ≤ 1000) (hr : realOk (wipeT own τ1) (wipeT own τ1) = true) : eComp own mi g test me τ = .ok (.own (.lst ((xs.filter p).map h)), τ1) := by
  rw [ecomp_ap _ _ _ _ _ _ hi hp]
  have go : ∀ (ys : List α) (acc : List D), (∀ x ∈ ys, x ∈ xs) → acc.length + ys.length ≤ 1000 → compM own noPin g test me (ys.map f) acc (wipeT own τ1) = .ok (acc ++ (ys.filter p).map h, wipeT own τ1) := by
    intro ys
    induction ys with
    | nil => intro acc _ _; rw [List.map_nil, comp_nil, List.filter_nil, List.map_nil, List.append_nil]
    | cons y ys ih =>
      intro acc hm hl
      rw [List.length_cons] at hl
      obtain ⟨τ2, τ3, e1, e2, e3, e4⟩ := each y (hm y List.mem_cons_self)
      rw [List.map_cons, comp_cons, e1]
      simp only [e2]
      cases hpy : p y with
      | false =>
        simp only
        rw [e3 hpy, ih acc (fun x hx => hm x (List.mem_cons_of_mem _ hx)) (by omega), List.filter_cons_of_neg (by rw [hpy]; exact Bool.false_ne_true)]
      | true =>
        obtain ⟨τ4, e5, e6⟩ := e4 hpy
        obtain ⟨s, τ5, e7, e8⟩ := bnd_ok e5
        have hf : fitL (acc.length + 1) = some () := fit_of (by omega)
        simp only [bnd_ap, e7, e8, of_ap, hf, M.ret, e6]
        rw [ih (acc ++ [h y]) (fun x hx => hm x (List.mem_cons_of_mem _ hx)) (by rw [List.length_append, List.length_cons, List.length_nil]; omega), List.filter_cons_of_pos (by rw [hpy]), List.map_cons, List.append_assoc]
        rfl
  rw [go xs [] (fun _ h => h) (by simpa using hl)]
  simp only [hr, if_true, List.nil_append, rest_wipe]
/-- a comprehension that reads -/
theorem ecompM {α : Type} {own : List Nat} {mi : M (List D × Pin)} {g : MG} {me : M S} (xs : List α) (f h : α → D) {τ τ1 : List S} (hi : mi τ = .ok ((xs.map f, noPin), τ1)) (hp : own.all (fun i => plainS (τ1.getD i .non)) = true)
    (each : ∀ x ∈ xs, ∃ τ2 τ3, g (.val (f x)) (wipeT own τ1) = .ok ((), τ2) ∧ M.bnd me take τ2 = .ok (h x, τ3) ∧ wipeT own τ3 = wipeT own τ1) (hl : xs.length ≤ 1000) (hr : realOk (wipeT own τ1) (wipeT own τ1) = true) : eComp own mi g bYes me τ = .ok (.own (.lst (xs.map h)), τ1) := by
  have := ecompF (own := own) (mi := mi) (g := g) (test := bYes) (me := me) xs f h (fun _ => true) hi hp (fun x hx => by
    obtain ⟨τ2, τ3, e1, e2, e3⟩ := each x hx
    exact ⟨τ2, τ2, e1, rfl, (fun h => by cases h), fun _ => ⟨τ3, e2, e3⟩⟩) hl hr
  rw [this, List.filter_eq_self.mpr fun _ _ => rfl]
theorem draw_comp {own : List Nat} {mi : M (List D × Pin)} {g : MG} {me : M S} {its : List D} {τ τ1 : List S} {rest : List S} (st : O → Nat → Prop) (Good : D → Prop) (k : Nat) (hi : mi τ = .ok ((its, noPin), τ1)) (hp : own.all (fun i => plainS (τ1.getD i .non)) = true) (o : O) (n : Nat) (hw : wipeT own τ1 = .lent 0 o :: rest) (ho : st o n)
    (each : ∀ x ∈ its, ∀ (o : O) (m : Nat), m ≤ n + k * its.length → st o m → ∃ y o' τ2 τ3, g (.val x) (.lent 0 o :: rest) = .ok ((), τ2) ∧ M.bnd me take τ2 = .ok (y, τ3) ∧ wipeT own τ3 = .lent 0 o' :: rest ∧ Good y ∧ st o' (m + k)) (hl : its.length ≤ 1000) (hr : ∀ o o' : O, realOk (.lent 0 o :: rest) (.lent 0 o' :: rest) = true) :
    ∃ ys o', eComp own mi g bYes me τ = .ok (.own (.lst ys), restT own τ1 (.lent 0 o' :: rest)) ∧ ys.length = its.length ∧ (∀ y ∈ ys, Good y) ∧ st o' (n + k * its.length) := by
  have go : ∀ (xs : List D) (acc : List D) (o : O) (m : Nat), (∀ x ∈ xs, x ∈ its) → acc.length + xs.length ≤ 1000 → m + k * xs.length ≤ n + k * its.length → st o m → ∃ ys o', compM own noPin g bYes me xs acc (.lent 0 o :: rest) = .ok (acc ++ ys, .lent 0 o' :: rest) ∧ ys.length = xs.length ∧ (∀ y ∈ ys, Good y) ∧ st o' (m + k * xs.length) := by
    intro xs
    induction xs with
    | nil => intro acc o m _ _ _ ho; exact ⟨[], o, by rw [comp_nil, List.append_nil], rfl, (fun _ h => by cases h), by simpa using ho⟩
    | cons x xs ih =>
      intro acc o m hm hl hb ho
      rw [List.length_cons] at hb hl
      rw [Nat.mul_succ] at hb
      obtain ⟨y, o1, τ2, τ3, e1, e2, e3, gd, h1⟩ := each x (hm x List.mem_cons_self) o m (by omega) ho
      obtain ⟨ys, o', e, l, g2, h2⟩ := ih (acc ++ [y]) o1 (m + k) (fun z hz => hm z (List.mem_cons_of_mem _ hz)) (by rw [List.length_append, List.length_cons, List.length_nil]; omega) (by omega) h1
      have hf : fitL (acc.length + 1) = some () := fit_of (by omega)
      obtain ⟨s, τ4, e4, e5⟩ := bnd_ok e2
      refine ⟨y :: ys, o', ?_, by rw [List.length_cons, List.length_cons, l], fun z hz => ?_, by rw [List.length_cons, Nat.mul_succ]; rw [show m + (k * xs.length + k) = m + k + k * xs.length by omega]; exact h2⟩
      · rw [comp_cons]
        simp only [e1, byes_ap, bnd_ap, e4, e5, of_ap, hf, M.ret, e3]
        rw [e, List.append_assoc]
        rfl
      · rcases List.mem_cons.mp hz with rfl | hz
        · exact gd
        · exact g2 z hz
  obtain ⟨ys, o', e, l, g2, h2⟩ := go its [] o n (fun _ h => h) (by simpa using hl) (Nat.le_refl _) ho
  refine ⟨ys, o', ?_, l, g2, h2⟩
  rw [ecomp_ap _ _ _ _ _ _ hi hp, hw, e]
  simp only [hr, if_true, List.nil_append]
theorem mul_big {i j : Int} (h1 : i.natAbs < 2 ^ 3500) (h2 : j.natAbs < 2 ^ 3500) : fMul (.int i) (.int j) = some (.val (.int (i * j))) := by
  have : mulFits i j = true := by
    unfold mulFits
    rw [Bool.or_eq_true]
    left
    have a := log_lt (by decide) h1
    have b := log_lt (by decide) h2
    exact decide_eq_true (by omega)
  simp only [fMul, this, if_true, sInt]
theorem set0 (a b c d : D) : setD (.int 0) d [a, b, c] = some [d, b, c] := rfl
end Mi

namespace K01
open PySem PySem.Spec PyProof.Rows L2 Mi

def top (i : Nat) : Stmt := PySem.Challenge.pw_farseen_k01_checks_of_any_value.main.body.getD i (.Pass ⟨0, 0, 0, 0⟩)
abbrev s_SeenError : Stmt := top 1
abbrev s_BadNumber : Stmt := top 2
abbrev s_is_integer : Stmt := top 7
abbrev s_is_within : Stmt := top 8
abbrev s_is_name : Stmt := top 9
abbrev s_are_integers : Stmt := top 10
abbrev s_is_ratio : Stmt := top 11
abbrev s_is_primitive : Stmt := top 12
abbrev s_first_twice : Stmt := top 13
abbrev s_need_number : Stmt := top 14
abbrev s_need_numbers : Stmt := top 15
abbrev s_measure : Stmt := top 16
abbrev s_common_divisor : Stmt := top 17
abbrev s_primitive : Stmt := top 18
abbrev s_reduced : Stmt := top 19
abbrev s_lowest : Stmt := top 20
abbrev s_in_lowest : Stmt := top 21
abbrev s__law_cup : Stmt := top 23
abbrev s__law_dip : Stmt := top 24
abbrev s__law_pick : Stmt := top 25
abbrev s__law_integer : Stmt := top 26
abbrev s__law_value : Stmt := top 27
abbrev s__law_same : Stmt := top 28
abbrev s__law_integers_right : Stmt := top 29
abbrev s__law_names_right : Stmt := top 30
abbrev s__law_divides : Stmt := top 31
abbrev s__law_measure : Stmt := top 32
abbrev s__law_divisors_right : Stmt := top 33
abbrev s__law_ratios_right : Stmt := top 34
abbrev s__law_twice_right : Stmt := top 35
abbrev s__law_part : Stmt := top 36
abbrev s_law : Stmt := top 37
abbrev s_BadNumber_init : Stmt := (C8.clsBody s_BadNumber).getD 0 (.Pass ⟨0, 0, 0, 0⟩)
/-! what isinstance tells -/
def isL0 : IsL := [(.bt "NoneType", .bt "tuple", false), (.bt "NoneType", .own "BadNumber", false), (.bt "NoneType", .bt "bool", false), (.bt "NoneType", .bt "int", false), (.bt "NoneType", .bt "list", false), (.bt "NoneType", .bt "str", false), (.bt "bool", .bt "tuple", false), (.bt "bool", .own "BadNumber", false), (.bt "bool", .bt "bool", true), (.bt "bool", .bt "int", true), (.bt "bool", .bt "list", false), (.bt "bool", .bt "str", false), (.bt "int", .bt "tuple", false), (.bt "int", .own "BadNumber", false), (.bt "int", .bt "bool", false), (.bt "int", .bt "int", true), (.bt "int", .bt "list", false), (.bt "int", .bt "str", false), (.bt "str", .bt "tuple", false), (.bt "str", .own "BadNumber", false), (.bt "str", .bt "bool", false), (.bt "str", .bt "int", false), (.bt "str", .bt "list", false), (.bt "str", .bt "str", true), (.bt "list", .bt "tuple", false), (.bt "list", .own "BadNumber", false), (.bt "list", .bt "bool", false), (.bt "list", .bt "int", false), (.bt "list", .bt "list", true), (.bt "list", .bt "str", false)]
def isL1 : IsL := [(.bt "tuple", .bt "tuple", true), (.bt "tuple", .own "BadNumber", false), (.bt "tuple", .bt "bool", false), (.bt "tuple", .bt "int", false), (.bt "tuple", .bt "list", false), (.bt "tuple", .bt "str", false), (.bt "dict", .bt "tuple", false), (.bt "dict", .own "BadNumber", false), (.bt "dict", .bt "bool", false), (.bt "dict", .bt "int", false), (.bt "dict", .bt "list", false), (.bt "dict", .bt "str", false), (.exc "BadNumber", .bt "tuple", false), (.exc "BadNumber", .own "BadNumber", true), (.exc "BadNumber", .bt "bool", false), (.exc "BadNumber", .bt "int", false), (.exc "BadNumber", .bt "list", false), (.exc "BadNumber", .bt "str", false)]
def isL : IsL := isL0 ++ isL1
def isT : IsT := isTb isL
def tgs : List Tg := [.bt "NoneType", .bt "bool", .bt "int", .bt "str", .bt "list", .bt "tuple", .bt "dict", .exc "BadNumber"]
def is_part : List Str := []
def es_part : List Str := ["BadNumber"]
def cl_SeenError : List (Str × Bool) := [("BadNumber", true)]
def ct_SeenError : Str → Option Bool := fun x => cl_SeenError.lookup x
noncomputable section
/-! the mirrors -/
def m__law_cup : M Fl := sSeq (sAsg 1 (eLit (.int 127))) (sSeq (sFor (iSeq (eSl (eVar 0) (pNone) (pSome (eLit (.int 40))))) (gNam 2) (sAsg 1 (eOp fAdd (eOp fMul (eVar 1) (eLit (.int 1000409))) (eOp fMod (eOp fAdd (eOp fMul (eLit (.int 2)) (eCB fAbs (lCons (eCB fInt (lCons (eVar 2) (lNil))) (lNil)))) (eCB fInt (lCons (eOp fLt (eVar 2) (eLit (.int 0))) (lNil)))) (eOp fPow (eOp fPow (eLit (.int 10)) (eLit (.int 60))) (eLit (.int 5))))))) (sRet (eLst (lCons (eVar 1) (lCons (eLit (.int 0)) (lCons (eOp fMod (eCB fInt (lCons (eVar 1) (lNil))) (eLit (.int 998244353))) (lNil)))))))
def f__law_cup : Fn := runFn 1 3 m__law_cup
def m__law_dip : M Fl := sSeq (sIf (bVal (eOp fEq (eOp fIx (eVar 0) (eLit (.int 0))) (eLit (.int 0)))) (sSeq (sSetIx (eOp fAdd (eOp fIx (eVar 0) (eLit (.int 1))) (eLit (.int 1))) (eVar 0) (eLit (.int 1))) (sSetIx (eOp fPow (eOp fAdd (eOp fAdd (eOp fMul (eOp fIx (eVar 0) (eLit (.int 2))) (eOp fAdd (eOp fMul (eLit (.int 2)) (eOp fIx (eVar 0) (eLit (.int 1)))) (eLit (.int 1)))) (eOp fMul (eLit (.int 91411)) (eOp fIx (eVar 0) (eLit (.int 1))))) (eLit (.int 59))) (eLit (.int 3))) (eVar 0) (eLit (.int 0)))) (sNil)) (sSeq (sAsg 2 (eOp fMod (eCB fInt (lCons (eOp fIx (eVar 0) (eLit (.int 0))) (lNil))) (eVar 1))) (sSeq (sSetIx (eOp fDiv (eCB fInt (lCons (eOp fIx (eVar 0) (eLit (.int 0))) (lNil))) (eVar 1)) (eVar 0) (eLit (.int 0))) (sRet (eVar 2))))
def f__law_dip : Fn := runFn 2 3 m__law_dip
def m__law_pick : M Fl := sRet (eOp fIx (eVar 1) (eCallL f__law_dip (lCons (eVar 0) (lCons (eCB fLen (lCons (eVar 1) (lNil))) (lNil)))))
def f__law_pick : Fn := runFn 2 2 m__law_pick
def m_measure : M Fl := sSeq (sAsg 1 (eLit (.int 0))) (sSeq (sFor (iSeq (eVar 0)) (gNam 2) (sSeq (sPar 3 4 (lCons (eVar 1) (lCons (eCB fAbs (lCons (eVar 2) (lNil))) (lNil)))) (sSeq (sWhile (bVal (eOp fNe (eVar 4) (eLit (.int 0)))) (sPar 3 4 (lCons (eVar 4) (lCons (eOp fMod (eVar 3) (eVar 4)) (lNil))))) (sAsg 1 (eVar 3))))) (sRet (eVar 1)))
def f_measure : Fn := runFn 1 5 m_measure
def m_is_integer : M Fl := sRet (eAnd (eCB (fIsi isT) (lCons (eVar 0) (lCons (eLit (.ty "int")) (lNil)))) (eNot (eCB (fIsi isT) (lCons (eVar 0) (lCons (eLit (.ty "bool")) (lNil))))))
def f_is_integer : Fn := runFn 1 1 m_is_integer
def m_are_integers : M Fl := sRet (eAnd (eCB (fIsi isT) (lCons (eVar 0) (lCons (eTup (lCons (eLit (.ty "list")) (lCons (eLit (.ty "tuple")) (lNil)))) (lNil)))) (eCB fAll (lCons (eComp [1] (iSeq (eVar 0)) (gNam 1) (bYes) (eCallV f_is_integer (lCons (eVar 1) (lNil)))) (lNil))))
def f_are_integers : Fn := runFn 1 2 m_are_integers
def m_need_numbers : M Fl := sIf (bNot (bVal (eCallV f_are_integers (lCons (eVar 0) (lNil))))) (sRaise "BadNumber" ["part"] (lCons (eVar 1) (lNil))) (sNil)
def f_need_numbers : Fn := runFn 2 2 m_need_numbers
def m_common_divisor : M Fl := sSeq (sExpr (eCallV f_need_numbers (lCons (eVar 0) (lCons (eLit (.str "values")) (lNil))))) (sRet (eCallV f_measure (lCons (eVar 0) (lNil))))
def f_common_divisor : Fn := runFn 1 1 m_common_divisor
def m_reduced : M Fl := sSeq (sAsg 1 (eCallV f_measure (lCons (eVar 0) (lNil)))) (sSeq (sIf (bVal (eOp fEq (eVar 1) (eLit (.int 0)))) (sRet (eCB fTuple (lCons (eVar 0) (lNil)))) (sNil)) (sSeq (sIf (bVal (eOp fLt (eOp fIx (eComp [2] (iSeq (eVar 0)) (gNam 2) (bVal (eOp fNe (eVar 2) (eLit (.int 0)))) (eVar 2)) (eLit (.int 0))) (eLit (.int 0)))) (sAsg 1 (eUn fNeg (eVar 1))) (sNil)) (sRet (eCB fTuple (lCons (eComp [2] (iSeq (eVar 0)) (gNam 2) (bYes) (eOp fDiv (eVar 2) (eVar 1))) (lNil))))))
def f_reduced : Fn := runFn 1 3 m_reduced
def m_primitive : M Fl := sSeq (sExpr (eCallV f_need_numbers (lCons (eVar 0) (lCons (eLit (.str "values")) (lNil))))) (sRet (eCallV f_reduced (lCons (eVar 0) (lNil))))
def f_primitive : Fn := runFn 1 1 m_primitive
def m__law_divides : M Fl := sRet (eOp fEq (eComp [2] (iSeq (eVar 1)) (gNam 2) (bVal (eOp fNe (eOp fMul (eOp fDiv (eVar 2) (eVar 0)) (eVar 0)) (eVar 2))) (eVar 2)) (eLst (lNil)))
def f__law_divides : Fn := runFn 2 3 m__law_divides
def m__law_measure : M Fl := sSeq (sAsg 1 (eCB fMax (lCons (eOp fAdd (eComp [2] (iSeq (eVar 0)) (gNam 2) (bYes) (eCB fAbs (lCons (eVar 2) (lNil)))) (eLst (lCons (eLit (.int 0)) (lNil)))) (lNil)))) (sRet (eCB fMax (lCons (eOp fAdd (eComp [3] (iRng ranged2 (lCons (eLit (.int 1)) (lCons (eOp fAdd (eVar 1) (eLit (.int 1))) (lNil)))) (gNam 3) (bVal (eCallV f__law_divides (lCons (eVar 3) (lCons (eVar 0) (lNil))))) (eVar 3)) (eLst (lCons (eLit (.int 0)) (lNil)))) (lNil))))
def f__law_measure : Fn := runFn 1 4 m__law_measure
def m__law_same : M Fl := sRet (eAnd (eCB (fIsi isT) (lCons (eVar 0) (lCons (eLit (.ty "bool")) (lNil)))) (eOp fEq (eVar 0) (eVar 1)))
def f__law_same : Fn := runFn 2 2 m__law_same
def m_is_primitive : M Fl := sRet (eAnd (eCallV f_are_integers (lCons (eVar 0) (lNil))) (eAnd (eOp fEq (eCallV f_measure (lCons (eVar 0) (lNil))) (eLit (.int 1))) (eOp fGt (eOp fIx (eComp [1] (iSeq (eVar 0)) (gNam 1) (bVal (eOp fNe (eVar 1) (eLit (.int 0)))) (eVar 1)) (eLit (.int 0))) (eLit (.int 0)))))
def f_is_primitive : Fn := runFn 1 2 m_is_primitive
def m__law_divisors_right : M Fl := sSeq (sAsg 1 (eCallL f__law_dip (lCons (eVar 0) (lCons (eLit (.int 12)) (lNil))))) (sSeq (sAsg 2 (eComp [3] (iRng ranged1 (lCons (eCallL f__law_dip (lCons (eVar 0) (lCons (eLit (.int 5)) (lNil)))) (lNil))) (gNam 3) (bYes) (eOp fMul (eOp fSub (eCallL f__law_dip (lCons (eVar 0) (lCons (eLit (.int 13)) (lNil)))) (eLit (.int 6))) (eVar 1)))) (sSeq (sAsgT (gTupM 2 (gsCons (gNam 4) (gsCons (gNam 5) (gsEnd)))) (eTup (lCons (eCallK [0] 1 f_common_divisor (lCons (eVar 2) (lNil))) (lCons (eCallV f__law_measure (lCons (eVar 2) (lNil))) (lNil))))) (sSeq (sIf (bOr (bVal (eOp fNe (eVar 4) (eVar 5))) (bOr (bVal (eOp fNe (eCallV f_common_divisor (lCons (eCB fTuple (lCons (eUn fRev (eVar 2)) (lNil))) (lNil))) (eVar 5))) (bNot (bVal (eCallV f_is_integer (lCons (eVar 4) (lNil))))))) (sRet (eLit (.bl false))) (sNil)) (sSeq (sAsgT (gTupM 2 (gsCons (gNam 6) (gsCons (gNam 7) (gsEnd)))) (eTup (lCons (eCallK [0] 1 f_primitive (lCons (eVar 2) (lNil))) (lCons (eOp fIx (eOp fAdd (eComp [8] (iSeq (eVar 2)) (gNam 8) (bVal (eOp fNe (eVar 8) (eLit (.int 0)))) (eVar 8)) (eLst (lCons (eLit (.int 0)) (lNil)))) (eLit (.int 0))) (lNil))))) (sSeq (sIf (bOr (bNot (bVal (eCB (fIsi isT) (lCons (eVar 6) (lCons (eLit (.ty "tuple")) (lNil)))))) (bOr (bVal (eOp fNe (eComp [9, 10] (iTk zipMD (lCons (eVar 6) (lCons (eVar 2) (lNil)))) (gTupM 2 (gsCons (gNam 9) (gsCons (gNam 10) (gsEnd)))) (bVal (eOp fNe (eOp fMul (eOp fMul (eVar 9) (eVar 5)) (eIf (bVal (eOp fGt (eVar 7) (eLit (.int 0)))) (eLit (.int 1)) (eUn fNeg (eLit (.int 1))))) (eVar 10))) (eLit (.int 1))) (eLst (lNil)))) (bVal (eOp fNe (eCB fLen (lCons (eVar 6) (lNil))) (eCB fLen (lCons (eVar 2) (lNil))))))) (sRet (eLit (.bl false))) (sNil)) (sSeq (sIf (bAnd (bVal (eOp fEq (eVar 7) (eLit (.int 0)))) (bVal (eOp fNe (eVar 6) (eCB fTuple (lCons (eVar 2) (lNil)))))) (sRet (eLit (.bl false))) (sNil)) (sSeq (sIf (bOr (bNot (bVal (eCallV f__law_same (lCons (eCallV f_is_primitive (lCons (eVar 6) (lNil))) (lCons (eOp fNe (eVar 7) (eLit (.int 0))) (lNil)))))) (bNot (bVal (eCallV f__law_same (lCons (eCallK [0] 1 f_is_primitive (lCons (eVar 2) (lNil))) (lCons (eAnd (eOp fEq (eVar 5) (eLit (.int 1))) (eOp fGt (eVar 7) (eLit (.int 0)))) (lNil))))))) (sRet (eLit (.bl false))) (sNil)) (sSeq (sAsg 11 (eOp fAdd (eOp fPow (eLit (.int 10)) (eLit (.int 17))) (eCallL f__law_dip (lCons (eVar 0) (lCons (eOp fPow (eLit (.int 10)) (eLit (.int 17))) (lNil)))))) (sSeq (sIf (bOr (bVal (eOp fNe (eCallV f_common_divisor (lCons (eComp [8] (iSeq (eVar 2)) (gNam 8) (bYes) (eOp fMul (eVar 11) (eVar 8))) (lNil))) (eOp fMul (eVar 11) (eVar 5)))) (bVal (eOp fNe (eCallV f_primitive (lCons (eComp [8] (iSeq (eVar 2)) (gNam 8) (bYes) (eOp fMul (eUn fNeg (eVar 11)) (eVar 8))) (lNil))) (eVar 6)))) (sRet (eLit (.bl false))) (sNil)) (sSeq (sAsg 12 (eCallL f__law_pick (lCons (eVar 0) (lCons (eLst (lCons (eLit .non) (lCons (eLit (.str "1")) (lCons (eLit (.dic [(.inl 1, .int 1)])) (lCons (eLst (lCons (eLit (.bl true)) (lNil))) (lCons (eLst (lCons (eLit (.int 1)) (lCons (eLit (.bl true)) (lNil)))) (lCons (eLst (lCons (eLit .non) (lNil))) (lCons (eLst (lCons (eLit (.str "1")) (lNil))) (lCons (eLit (.int 1)) (lCons (eTup (lCons (eTup (lCons (eLit (.int 1)) (lNil))) (lNil))) (lCons (eLst (lNil)) (lCons (eLst (lCons (eLit (.int 0)) (lNil))) (lCons (eTup (lCons (eLit (.int 0)) (lCons (eLit (.int 0)) (lNil)))) (lCons (eLst (lCons (eLit (.int 2)) (lCons (eLit (.int 4)) (lNil)))) (lCons (eLst (lCons (eUn fNeg (eLit (.int 1))) (lCons (eLit (.int 2)) (lNil)))) (lCons (eLst (lCons (eLit (.int 0)) (lCons (eUn fNeg (eLit (.int 3))) (lCons (eLit (.int 2)) (lNil))))) (lNil))))))))))))))))) (lNil))))) (sRet (eAnd (eCallV f__law_same (lCons (eCallV f_is_primitive (lCons (eVar 12) (lNil))) (lCons (eLit (.bl false)) (lNil)))) (eAnd (eCallV f__law_same (lCons (eCallV f_is_primitive (lCons (eLst (lCons (eLit (.int 0)) (lCons (eLit (.int 1)) (lNil)))) (lNil))) (lCons (eLit (.bl true)) (lNil)))) (eAnd (eOp fEq (eCallV f_common_divisor (lCons (eTup (lNil)) (lNil))) (eLit (.int 0))) (eOp fEq (eCallV f_primitive (lCons (eLst (lNil)) (lNil))) (eTup (lNil)))))))))))))))))
def f__law_divisors_right : Fn := runFn 1 13 m__law_divisors_right
def m__law_integer : M Fl := sSeq (sPar 1 2 (lCons (eOp fSub (eCallL f__law_dip (lCons (eVar 0) (lCons (eLit (.int 60)) (lNil)))) (eLit (.int 30))) (lCons (eOp fSub (eCallL f__law_dip (lCons (eVar 0) (lCons (eOp fPow (eLit (.int 10)) (eLit (.int 28))) (lNil)))) (eOp fMul (eLit (.int 5)) (eOp fPow (eLit (.int 10)) (eLit (.int 27))))) (lNil)))) (sRet (eCallL f__law_pick (lCons (eVar 0) (lCons (eLst (lCons (eVar 1) (lCons (eVar 1) (lCons (eVar 2) (lCons (eLit (.int 0)) (lCons (eLit (.int 1)) (lCons (eUn fNeg (eLit (.int 1))) (lNil)))))))) (lNil)))))
def f__law_integer : Fn := runFn 1 3 m__law_integer
def m__law_value : M Fl := sSeq (sAsg 1 (eCallL f__law_integer (lCons (eVar 0) (lNil)))) (sRet (eCallL f__law_pick (lCons (eVar 0) (lCons (eLst (lCons (eLit .non) (lCons (eLit (.bl true)) (lCons (eLit (.bl false)) (lCons (eCB fStr (lCons (eVar 1) (lNil))) (lCons (eLit (.str "")) (lCons (eLst (lCons (eVar 1) (lNil))) (lCons (eTup (lCons (eVar 1) (lNil))) (lCons (eLit (.dic [])) (lCons (eDicN "a" 1) (lCons (eLst (lCons (eVar 1) (lCons (eLit (.bl true)) (lNil)))) (lCons (eTup (lCons (eLit .non) (lNil))) (lCons (eLst (lCons (eLst (lCons (eVar 1) (lNil))) (lNil))) (lNil)))))))))))))) (lNil)))))
def f__law_value : Fn := runFn 1 2 m__law_value
def m_is_within : M Fl := sSeq (sIf (bNot (bVal (eCallV f_is_integer (lCons (eVar 0) (lNil))))) (sRet (eLit (.bl false))) (sNil)) (sRet (eAnd (eOr (eOp fIsN (eVar 1) (eLit .non)) (eOp fLe (eVar 1) (eVar 0))) (eOr (eOp fIsN (eVar 2) (eLit .non)) (eOp fLe (eVar 0) (eVar 2)))))
def f_is_within : Fn := runFn 3 3 m_is_within
def m__law_integers_right : M Fl := sSeq (sPar 1 2 (lCons (eCallL f__law_integer (lCons (eVar 0) (lNil))) (lCons (eCallL f__law_value (lCons (eVar 0) (lNil))) (lNil)))) (sSeq (sIf (bOr (bNot (bVal (eCallV f__law_same (lCons (eCallK [0] 1 f_is_integer (lCons (eVar 1) (lNil))) (lCons (eLit (.bl true)) (lNil)))))) (bOr (bNot (bVal (eCallV f__law_same (lCons (eCallV f_is_integer (lCons (eVar 2) (lNil))) (lCons (eLit (.bl false)) (lNil)))))) (bNot (bVal (eCallV f__law_same (lCons (eCallV f_is_within (lCons (eVar 2) (lCons (eLit .non) (lCons (eLit .non) (lNil))))) (lCons (eLit (.bl false)) (lNil)))))))) (sRet (eLit (.bl false))) (sNil)) (sSeq (sPar 3 4 (lCons (eOp fSub (eOp fAdd (eVar 1) (eCallL f__law_dip (lCons (eVar 0) (lCons (eLit (.int 5)) (lNil))))) (eLit (.int 2))) (lCons (eOp fSub (eOp fAdd (eVar 1) (eCallL f__law_dip (lCons (eVar 0) (lCons (eLit (.int 5)) (lNil))))) (eLit (.int 2))) (lNil)))) (sSeq (sFor (iSeq (eTup (lCons (eTup (lCons (eVar 3) (lCons (eVar 4) (lNil)))) (lCons (eTup (lCons (eLit .non) (lCons (eVar 4) (lNil)))) (lCons (eTup (lCons (eVar 3) (lCons (eLit .non) (lNil)))) (lCons (eTup (lCons (eLit .non) (lCons (eLit .non) (lNil)))) (lNil))))))) (gTupM 2 (gsCons (gNam 5) (gsCons (gNam 6) (gsEnd)))) (sSeq (sAsg 7 (eAnd (eOr (eOp fIsN (eVar 5) (eLit .non)) (eOp fLe (eVar 5) (eVar 1))) (eOr (eOp fIsN (eVar 6) (eLit .non)) (eOp fLe (eVar 1) (eVar 6))))) (sIf (bOr (bNot (bVal (eCallV f__law_same (lCons (eCallV f_is_within (lCons (eVar 1) (lCons (eVar 5) (lCons (eVar 6) (lNil))))) (lCons (eVar 7) (lNil)))))) (bNot (bVal (eCallV f__law_same (lCons (eCallK [2, 1, 0] 3 f_is_within (lCons (eVar 6) (lCons (eVar 5) (lCons (eVar 1) (lNil))))) (lCons (eVar 7) (lNil))))))) (sRet (eLit (.bl false))) (sNil)))) (sSeq (sAsg 8 (eComp [9] (iRng ranged1 (lCons (eCallL f__law_dip (lCons (eVar 0) (lCons (eLit (.int 4)) (lNil)))) (lNil))) (gNam 9) (bYes) (eCallL f__law_integer (lCons (eVar 0) (lNil))))) (sSeq (sAsg 10 (eCallL f__law_dip (lCons (eVar 0) (lCons (eOp fAdd (eCB fLen (lCons (eVar 8) (lNil))) (eLit (.int 1))) (lNil))))) (sSeq (sIf (bOr (bNot (bVal (eCallV f__law_same (lCons (eCallV f_are_integers (lCons (eVar 8) (lNil))) (lCons (eLit (.bl true)) (lNil)))))) (bNot (bVal (eCallV f__law_same (lCons (eCallK [0] 1 f_are_integers (lCons (eCB fTuple (lCons (eVar 8) (lNil))) (lNil))) (lCons (eLit (.bl true)) (lNil))))))) (sRet (eLit (.bl false))) (sNil)) (sRet (eAnd (eCallV f__law_same (lCons (eCallV f_are_integers (lCons (eOp fAdd (eOp fAdd (eSl (eVar 8) (pNone) (pSome (eVar 10))) (eLst (lCons (eVar 2) (lNil)))) (eSl (eVar 8) (pSome (eVar 10)) (pNone))) (lNil))) (lCons (eLit (.bl false)) (lNil)))) (eAnd (eCallV f__law_same (lCons (eCallV f_are_integers (lCons (eLit (.dic [(.inl 0, .int 1)])) (lNil))) (lCons (eLit (.bl false)) (lNil)))) (eCallV f__law_same (lCons (eCallV f_are_integers (lCons (eLit (.str "12")) (lNil))) (lCons (eLit (.bl false)) (lNil)))))))))))))
def f__law_integers_right : Fn := runFn 1 11 m__law_integers_right
def m_is_name : M Fl := sSeq (sIf (bOr (bNot (bVal (eCB (fIsi isT) (lCons (eVar 0) (lCons (eLit (.ty "str")) (lNil)))))) (bNot (bVal (eChain fLt fLe (eLit (.int 0)) (eCB fLen (lCons (eVar 0) (lNil))) (eLit (.int 12)))))) (sRet (eLit (.bl false))) (sNil)) (sRet (eAnd (eOp fInC (eOp fIx (eVar 0) (eLit (.int 0))) (eLit (.str "abcdefghijklmnopqrstuvwxyz"))) (eCB fAll (lCons (eComp [1] (iAny (eVar 0)) (gNam 1) (bYes) (eOp fInC (eVar 1) (eOp fAdd (eLit (.str "abcdefghijklmnopqrstuvwxyz")) (eLit (.str "0123456789"))))) (lNil)))))
def f_is_name : Fn := runFn 1 2 m_is_name
def m__law_names_right : M Fl := sSeq (sAsgT (gTupM 2 (gsCons (gNam 1) (gsCons (gNam 2) (gsEnd)))) (eTup (lCons (eLit (.str "abcdefghijklmnopqrstuvwxyz")) (lCons (eLit (.str "abcdefghijklmnopqrstuvwxyz0123456789")) (lNil))))) (sSeq (sAsg 3 (eCallL f__law_pick (lCons (eVar 0) (lCons (eCB fListS (lCons (eVar 1) (lNil))) (lNil))))) (sSeq (sFor (iRng ranged1 (lCons (eCallL f__law_dip (lCons (eVar 0) (lCons (eLit (.int 12)) (lNil)))) (lNil))) (gNam 4) (sAsg 3 (eOp fAdd (eVar 3) (eCallL f__law_pick (lCons (eVar 0) (lCons (eCB fListS (lCons (eVar 2) (lNil))) (lNil))))))) (sSeq (sPar 5 6 (lCons (eCallL f__law_dip (lCons (eVar 0) (lCons (eOp fAdd (eCB fLen (lCons (eVar 3) (lNil))) (eLit (.int 1))) (lNil)))) (lCons (eCallL f__law_pick (lCons (eVar 0) (lCons (eLst (lCons (eLit (.str "A")) (lCons (eLit (.str " ")) (lCons (eLit (.str "_")) (lCons (eLit (.str "-")) (lCons (eLit (.str ".")) (lCons (eLit (.str "\n")) (lCons (eLit (.str "Z")) (lCons (eLit (.str "#")) (lCons (eLit (.str "{")) (lCons (eLit (.str "/")) (lCons (eLit (.str ":")) (lNil))))))))))))) (lNil)))) (lNil)))) (sSeq (sIf (bOr (bNot (bVal (eCallV f__law_same (lCons (eCallK [0] 1 f_is_name (lCons (eVar 3) (lNil))) (lCons (eLit (.bl true)) (lNil)))))) (bNot (bVal (eCallV f__law_same (lCons (eCallV f_is_name (lCons (eOp fAdd (eOp fAdd (eSlT (eVar 3) (pNone) (pSome (eVar 5))) (eVar 6)) (eSlT (eVar 3) (pSome (eVar 5)) (pNone))) (lNil))) (lCons (eLit (.bl false)) (lNil))))))) (sRet (eLit (.bl false))) (sNil)) (sSeq (sIf (bOr (bNot (bVal (eCallV f__law_same (lCons (eCallV f_is_name (lCons (eOp fAdd (eLit (.str "4")) (eSlT (eVar 3) (pNone) (pSome (eLit (.int 4))))) (lNil))) (lCons (eLit (.bl false)) (lNil)))))) (bNot (bVal (eCallV f__law_same (lCons (eCallV f_is_name (lCons (eOp fAdd (eVar 3) (eOp fMulS (eLit (.str "z")) (eOp fSub (eLit (.int 13)) (eCB fLen (lCons (eVar 3) (lNil)))))) (lNil))) (lCons (eLit (.bl false)) (lNil))))))) (sRet (eLit (.bl false))) (sNil)) (sRet (eAnd (eCallV f__law_same (lCons (eCallV f_is_name (lCons (eOp fAdd (eVar 3) (eOp fMulS (eLit (.str "z")) (eOp fSub (eLit (.int 12)) (eCB fLen (lCons (eVar 3) (lNil)))))) (lNil))) (lCons (eLit (.bl true)) (lNil)))) (eAnd (eNot (eCallV f_is_name (lCons (eLit (.str "")) (lNil)))) (eNot (eCallV f_is_name (lCons (eCallL f__law_value (lCons (eVar 0) (lNil))) (lNil))))))))))))
def f__law_names_right : Fn := runFn 1 7 m__law_names_right
def m__law_part (o : Th) : M Fl := sSeq (sAsg 1 (eLit .non)) (sSeq (sTry 2 ct_SeenError (sExpr (eThunk o)) (sAsg 1 (eVar 2))) (sRet (eIf (bVal (eOp fIsN (eVar 1) (eLit .non))) (eLit .non) (eIf (bVal (eCB (fIsi isT) (lCons (eVar 1) (lCons (eLit (.cls "BadNumber")) (lNil))))) (eUn (fldD "part" is_part es_part) (eVar 1)) (eLit (.bl false))))))
def g__law_part : Th → R Mi.S := runG 3 m__law_part
def m_in_lowest : M Fl := sSeq (sAsg 2 (eIf (bVal (eOp fGt (eVar 1) (eLit (.int 0)))) (eCallV f_measure (lCons (eLst (lCons (eVar 0) (lCons (eVar 1) (lNil)))) (lNil))) (eUn fNeg (eCallV f_measure (lCons (eLst (lCons (eVar 0) (lCons (eVar 1) (lNil)))) (lNil)))))) (sRet (eTup (lCons (eOp fDiv (eVar 0) (eVar 2)) (lCons (eOp fDiv (eVar 1) (eVar 2)) (lNil)))))
def f_in_lowest : Fn := runFn 2 3 m_in_lowest
def m_need_number : M Fl := sIf (bNot (bVal (eCallV f_is_within (lCons (eVar 0) (lCons (eVar 2) (lCons (eVar 3) (lNil))))))) (sRaise "BadNumber" ["part"] (lCons (eVar 1) (lNil))) (sNil)
def f_need_number : Fn := runFn 4 4 m_need_number
def m_lowest : M Fl := sSeq (sExpr (eCallV f_need_number (lCons (eVar 0) (lCons (eLit (.str "number")) (lCons (eLit .non) (lCons (eLit .non) (lNil))))))) (sSeq (sExpr (eCallV f_need_number (lCons (eVar 1) (lCons (eLit (.str "by")) (lCons (eLit .non) (lCons (eLit .non) (lNil))))))) (sSeq (sIf (bVal (eOp fEq (eVar 1) (eLit (.int 0)))) (sRaise "BadNumber" ["part"] (lCons (eLit (.str "by")) (lNil))) (sNil)) (sRet (eCallV f_in_lowest (lCons (eVar 0) (lCons (eVar 1) (lNil)))))))
def f_lowest : Fn := runFn 2 2 m_lowest
def m_is_ratio : M Fl := sSeq (sIf (bOr (bNot (bVal (eCallV f_are_integers (lCons (eVar 0) (lNil))))) (bVal (eOp fNe (eCB fLen (lCons (eVar 0) (lNil))) (eLit (.int 2))))) (sRet (eLit (.bl false))) (sNil)) (sRet (eAnd (eOp fGt (eOp fIx (eVar 0) (eLit (.int 1))) (eLit (.int 0))) (eOp fEq (eCallV f_measure (lCons (eVar 0) (lNil))) (eLit (.int 1)))))
def f_is_ratio : Fn := runFn 1 1 m_is_ratio
def m__law_ratios_right : M Fl := sSeq (sPar3 1 2 3 (lCons (eCallL f__law_dip (lCons (eVar 0) (lCons (eLit (.int 30)) (lNil)))) (lCons (eOp fSub (eCallL f__law_dip (lCons (eVar 0) (lCons (eLit (.int 41)) (lNil)))) (eLit (.int 20))) (lCons (eOp fSub (eCallL f__law_dip (lCons (eVar 0) (lCons (eLit (.int 41)) (lNil)))) (eLit (.int 20))) (lNil))))) (sSeq (sPar 2 3 (lCons (eOp fMul (eVar 2) (eVar 1)) (lCons (eOp fMul (eVar 3) (eVar 1)) (lNil)))) (sSeq (sAsg 4 (eAnd (eOp fGt (eVar 3) (eLit (.int 0))) (eOp fEq (eCallV f__law_measure (lCons (eLst (lCons (eVar 2) (lCons (eVar 3) (lNil)))) (lNil))) (eLit (.int 1))))) (sSeq (sIf (bOr (bNot (bVal (eCallV f__law_same (lCons (eCallV f_is_ratio (lCons (eTup (lCons (eVar 2) (lCons (eVar 3) (lNil)))) (lNil))) (lCons (eVar 4) (lNil)))))) (bNot (bVal (eCallV f__law_same (lCons (eCallK [0] 1 f_is_ratio (lCons (eLst (lCons (eVar 2) (lCons (eVar 3) (lNil)))) (lNil))) (lCons (eVar 4) (lNil))))))) (sRet (eLit (.bl false))) (sNil)) (sSeq (sIf (bVal (eOp fNe (eVar 3) (eLit (.int 0)))) (sSeq (sAsg 5 (eCallK [0, 1] 2 f_lowest (lCons (eVar 2) (lCons (eVar 3) (lNil))))) (sIf (bOr (bNot (bVal (eCB (fIsi isT) (lCons (eVar 5) (lCons (eLit (.ty "tuple")) (lNil)))))) (bOr (bNot (bVal (eCallV f_is_ratio (lCons (eVar 5) (lNil))))) (bVal (eOp fNe (eOp fMul (eOp fIx (eVar 5) (eLit (.int 0))) (eVar 3)) (eOp fMul (eOp fIx (eVar 5) (eLit (.int 1))) (eVar 2)))))) (sRet (eLit (.bl false))) (sNil))) (sNil)) (sSeq (sAsg 6 (eCallL f__law_pick (lCons (eVar 0) (lCons (eLst (lCons (eTup (lCons (eLit (.int 1)) (lCons (eLit (.bl true)) (lNil)))) (lCons (eTup (lCons (eLit (.bl false)) (lCons (eLit (.int 1)) (lNil)))) (lCons (eTup (lCons (eLit (.int 1)) (lNil))) (lCons (eTup (lCons (eLit (.int 1)) (lCons (eLit (.int 2)) (lCons (eLit (.int 3)) (lNil))))) (lCons (eLit (.str "12")) (lCons (eLit .non) (lCons (eTup (lCons (eLit (.int 1)) (lCons (eLit (.int 0)) (lNil)))) (lCons (eTup (lCons (eLit (.int 0)) (lCons (eLit (.int 2)) (lNil)))) (lCons (eTup (lCons (eLit (.int 2)) (lCons (eUn fNeg (eLit (.int 3))) (lNil)))) (lCons (eLit (.dic [(.inl 1, .int 2)])) (lCons (eTup (lCons (eLit (.int 1)) (lCons (eLit .non) (lNil)))) (lCons (eTup (lNil)) (lNil)))))))))))))) (lNil))))) (sRet (eAnd (eCallV f__law_same (lCons (eCallV f_is_ratio (lCons (eVar 6) (lNil))) (lCons (eLit (.bl false)) (lNil)))) (eAnd (eCallV f_is_ratio (lCons (eTup (lCons (eLit (.int 0)) (lCons (eLit (.int 1)) (lNil)))) (lNil))) (eCallV f_is_ratio (lCons (eTup (lCons (eUn fNeg (eLit (.int 7))) (lCons (eOp fPow (eLit (.int 10)) (eLit (.int 20))) (lNil)))) (lNil)))))))))))
def f__law_ratios_right : Fn := runFn 1 7 m__law_ratios_right
def m_first_twice : M Fl := Mi.m_ft
def f_first_twice : Fn := runFn 1 3 m_first_twice
def m__law_twice_right : M Fl := sSeq (sAsg 1 (eComp [2] (iRng ranged1 (lCons (eCallL f__law_dip (lCons (eVar 0) (lCons (eLit (.int 6)) (lNil)))) (lNil))) (gNam 2) (bYes) (eCallL f__law_dip (lCons (eVar 0) (lCons (eLit (.int 9)) (lNil)))))) (sSeq (sAsg 3 (eComp [4, 5] (iTk enumD (lCons (eVar 1) (lNil))) (gTupM 2 (gsCons (gNam 4) (gsCons (gNam 5) (gsEnd)))) (bVal (eOp fIn (eVar 5) (eSl (eVar 1) (pNone) (pSome (eVar 4))))) (eVar 5))) (sSeq (sIf (bVal (eOp fNe (eCallK [0] 1 f_first_twice (lCons (eVar 1) (lNil))) (eIf (bVal (eOp fNe (eVar 3) (eLst (lNil)))) (eOp fIx (eVar 3) (eLit (.int 0))) (eLit .non)))) (sRet (eLit (.bl false))) (sNil)) (sSeq (sAsg 6 (eComp [5] (iSeq (eVar 1)) (gNam 5) (bYes) (eOp fAdd (eLit (.str "d")) (eCB fStr (lCons (eVar 5) (lNil)))))) (sRet (eOp fEq (eCallV f_first_twice (lCons (eCB fTuple (lCons (eVar 6) (lNil))) (lNil))) (eIf (bVal (eOp fNe (eVar 3) (eLst (lNil)))) (eOp fIx (eVar 6) (eIndex (eVar 1) (lCons (eOp fIx (eVar 3) (eLit (.int 0))) (lNil)))) (eLit .non)))))))
def f__law_twice_right : Fn := runFn 1 7 m__law_twice_right
def m_law : M Fl := sSeq (sAsg 1 (eCallV f__law_cup (lCons (eVar 0) (lNil)))) (sSeq (sFor (iRng ranged1 (lCons (eLit (.int 3)) (lNil))) (gNam 2) (sSeq (sIf (bOr (bNot (bVal (eCallL f__law_integers_right (lCons (eVar 1) (lNil))))) (bOr (bNot (bVal (eCallL f__law_names_right (lCons (eVar 1) (lNil))))) (bOr (bNot (bVal (eCallL f__law_ratios_right (lCons (eVar 1) (lNil))))) (bNot (bVal (eCallL f__law_twice_right (lCons (eVar 1) (lNil)))))))) (sRet (eLit (.bl false))) (sNil)) (sIf (bNot (bVal (eCallL f__law_divisors_right (lCons (eVar 1) (lNil))))) (sRet (eLit (.bl false))) (sNil)))) (sSeq (sAsgT (gTupM 2 (gsCons (gNam 3) (gsCons (gNam 4) (gsEnd)))) (eTup (lCons (eCallL f__law_value (lCons (eVar 1) (lNil))) (lCons (eCallL f__law_value (lCons (eVar 1) (lNil))) (lNil))))) (sSeq (sAsg 5 (eCallL f__law_pick (lCons (eVar 1) (lCons (eLst (lCons (eLit .non) (lCons (eLit (.int 5)) (lCons (eLit (.str "12")) (lCons (eLst (lCons (eLit .non) (lNil))) (lCons (eLst (lCons (eLit (.bl true)) (lNil))) (lCons (eLst (lCons (eLit (.int 1)) (lCons (eLit (.str "2")) (lNil)))) (lCons (eLit (.dic [])) (lCons (eTup (lCons (eLit (.int 1)) (lCons (eTup (lCons (eLit (.int 2)) (lNil))) (lNil)))) (lNil)))))))))) (lNil))))) (sSeq (sAsg 6 (eLst (lCons (eLam [5] (eCallV f_common_divisor (lCons (eVar 5) (lNil))) g__law_part) (lNil)))) (sSeq (sExpr (eAppend (eVar 6) (lCons (eLam [5] (eCallV f_primitive (lCons (eVar 5) (lNil))) g__law_part) (lNil)))) (sSeq (sExpr (eAppend (eVar 6) (lCons (eLam [3] (eCallV f_lowest (lCons (eVar 3) (lCons (eLit (.int 0)) (lNil)))) g__law_part) (lNil)))) (sSeq (sExpr (eAppend (eVar 6) (lCons (eLam [4] (eCallV f_lowest (lCons (eLit (.int 4)) (lCons (eVar 4) (lNil)))) g__law_part) (lNil)))) (sSeq (sExpr (eAppend (eVar 6) (lCons (eLam [] (eCallV f_lowest (lCons (eLit (.int 4)) (lCons (eLit (.int 0)) (lNil)))) g__law_part) (lNil)))) (sSeq (sExpr (eAppend (eVar 6) (lCons (eLam [] (eCallV f_lowest (lCons (eLit (.int 0)) (lCons (eUn fNeg (eLit (.int 5))) (lNil)))) g__law_part) (lNil)))) (sRet (eAnd (eOp fEq (eVar 6) (eLst (lCons (eLit (.str "values")) (lCons (eLit (.str "values")) (lCons (eLit (.str "number")) (lCons (eLit (.str "by")) (lCons (eLit (.str "by")) (lCons (eLit .non) (lNil))))))))) (eOp fEq (eCallV f_lowest (lCons (eLit (.int 0)) (lCons (eUn fNeg (eLit (.int 5))) (lNil)))) (eTup (lCons (eLit (.int 0)) (lCons (eLit (.int 1)) (lNil))))))))))))))))
def f_law : Fn := runFn 1 7 m_law
/-! the head: facts by names -/
def df0 : He.DefD := ⟨("_law_cup", none), "_law_cup", "_law_cup", defArgs s__law_cup, defBody s__law_cup, defScope s__law_cup, [], []⟩
def df1 : He.DefD := ⟨("_law_dip", none), "_law_dip", "_law_dip", defArgs s__law_dip, defBody s__law_dip, defScope s__law_dip, [], []⟩
def df2 : He.DefD := ⟨("_law_pick", none), "_law_pick", "_law_pick", defArgs s__law_pick, defBody s__law_pick, defScope s__law_pick, [], []⟩
def df3 : He.DefD := ⟨("measure", none), "measure", "measure", defArgs s_measure, defBody s_measure, defScope s_measure, [], []⟩
def df4 : He.DefD := ⟨("is_integer", none), "is_integer", "is_integer", defArgs s_is_integer, defBody s_is_integer, defScope s_is_integer, [], []⟩
def df5 : He.DefD := ⟨("are_integers", none), "are_integers", "are_integers", defArgs s_are_integers, defBody s_are_integers, defScope s_are_integers, [], []⟩
def df6 : He.DefD := ⟨("need_numbers", none), "need_numbers", "need_numbers", defArgs s_need_numbers, defBody s_need_numbers, defScope s_need_numbers, [], []⟩
def df7 : He.DefD := ⟨("common_divisor", none), "common_divisor", "common_divisor", defArgs s_common_divisor, defBody s_common_divisor, defScope s_common_divisor, [], []⟩
def df8 : He.DefD := ⟨("reduced", none), "reduced", "reduced", defArgs s_reduced, defBody s_reduced, defScope s_reduced, [], []⟩
def df9 : He.DefD := ⟨("primitive", none), "primitive", "primitive", defArgs s_primitive, defBody s_primitive, defScope s_primitive, [], []⟩
def df10 : He.DefD := ⟨("_law_divides", none), "_law_divides", "_law_divides", defArgs s__law_divides, defBody s__law_divides, defScope s__law_divides, [], []⟩
def df11 : He.DefD := ⟨("_law_measure", none), "_law_measure", "_law_measure", defArgs s__law_measure, defBody s__law_measure, defScope s__law_measure, [], []⟩
def df12 : He.DefD := ⟨("_law_same", none), "_law_same", "_law_same", defArgs s__law_same, defBody s__law_same, defScope s__law_same, [], []⟩
def df13 : He.DefD := ⟨("is_primitive", none), "is_primitive", "is_primitive", defArgs s_is_primitive, defBody s_is_primitive, defScope s_is_primitive, [], []⟩
def df14 : He.DefD := ⟨("_law_divisors_right", none), "_law_divisors_right", "_law_divisors_right", defArgs s__law_divisors_right, defBody s__law_divisors_right, defScope s__law_divisors_right, [], []⟩
def df15 : He.DefD := ⟨("_law_integer", none), "_law_integer", "_law_integer", defArgs s__law_integer, defBody s__law_integer, defScope s__law_integer, [], []⟩
def df16 : He.DefD := ⟨("_law_value", none), "_law_value", "_law_value", defArgs s__law_value, defBody s__law_value, defScope s__law_value, [], []⟩
def df17 : He.DefD := ⟨("is_within", none), "is_within", "is_within", defArgs s_is_within, defBody s_is_within, defScope s_is_within, [], []⟩
def df18 : He.DefD := ⟨("_law_integers_right", none), "_law_integers_right", "_law_integers_right", defArgs s__law_integers_right, defBody s__law_integers_right, defScope s__law_integers_right, [], []⟩
def df19 : He.DefD := ⟨("is_name", none), "is_name", "is_name", defArgs s_is_name, defBody s_is_name, defScope s_is_name, [], []⟩
def df20 : He.DefD := ⟨("_law_names_right", none), "_law_names_right", "_law_names_right", defArgs s__law_names_right, defBody s__law_names_right, defScope s__law_names_right, [], []⟩
def df21 : He.DefD := ⟨("_law_part", none), "_law_part", "_law_part", defArgs s__law_part, defBody s__law_part, defScope s__law_part, [], []⟩
def df22 : He.DefD := ⟨("in_lowest", none), "in_lowest", "in_lowest", defArgs s_in_lowest, defBody s_in_lowest, defScope s_in_lowest, [], []⟩
def df23 : He.DefD := ⟨("need_number", none), "need_number", "need_number", defArgs s_need_number, defBody s_need_number, defScope s_need_number, [], []⟩
def df24 : He.DefD := ⟨("lowest", none), "lowest", "lowest", defArgs s_lowest, defBody s_lowest, defScope s_lowest, [], []⟩
def df25 : He.DefD := ⟨("is_ratio", none), "is_ratio", "is_ratio", defArgs s_is_ratio, defBody s_is_ratio, defScope s_is_ratio, [], []⟩
def df26 : He.DefD := ⟨("_law_ratios_right", none), "_law_ratios_right", "_law_ratios_right", defArgs s__law_ratios_right, defBody s__law_ratios_right, defScope s__law_ratios_right, [], []⟩
def df27 : He.DefD := ⟨("first_twice", none), "first_twice", "first_twice", defArgs s_first_twice, defBody s_first_twice, defScope s_first_twice, [], []⟩
def df28 : He.DefD := ⟨("_law_twice_right", none), "_law_twice_right", "_law_twice_right", defArgs s__law_twice_right, defBody s__law_twice_right, defScope s__law_twice_right, [], []⟩
def df29 : He.DefD := ⟨("law", none), "law", "law", defArgs s_law, defBody s_law, defScope s_law, [], []⟩
def df30 : He.DefD := ⟨("BadNumber", some "__init__"), "__init__", "BadNumber.__init__", defArgs s_BadNumber_init, defBody s_BadNumber_init, defScope s_BadNumber_init, [], []⟩
def fn0 : List He.DefD := [df0, df1, df2, df3, df4, df5, df6, df7, df8, df9, df10, df11, df12, df13, df14, df15, df16, df17, df18, df19, df20, df21, df22, df23, df24, df25, df26, df27, df28, df29]
def fn1 : List He.DefD := [df30]
def fn : List He.DefD := fn0 ++ fn1
def fa0 : List He.Fa := [.glo "SeenError", .glo "BadNumber", .glo "is_integer", .glo "is_within", .glo "is_name", .glo "are_integers", .glo "is_ratio", .glo "is_primitive", .glo "first_twice", .glo "need_number", .glo "need_numbers", .glo "measure", .glo "common_divisor", .glo "primitive", .glo "reduced", .glo "lowest", .glo "in_lowest", .glo "_law_cup", .glo "_law_dip", .glo "_law_pick", .glo "_law_integer", .glo "_law_value", .glo "_law_same", .glo "_law_integers_right", .glo "_law_names_right", .glo "_law_divides", .glo "_law_measure", .glo "_law_divisors_right", .glo "_law_ratios_right", .glo "_law_twice_right"]
def fa1 : List He.Fa := [.glo "_law_part", .glo "law", .free "range", .free "int", .free "abs", .free "tuple", .free "isinstance", .free "zip", .free "len", .free "list", .free "enumerate", .free "str", .free "max", .free "bool", .free "all", .free "set"]
def fa : List He.Fa := fa0 ++ fa1
def tq : List Tq := [(("law", none), "law")]
def exs (K : PySem.W.Frag) : List Bool := [decide ((tq.map fun p => (He.cT K p.1).2).Nodup), isB isL K, fldB "part" is_part es_part K, catB "SeenError" cl_SeenError K, xokB "BadNumber" ["part"] K, intB "LONGEST" 12 K, strB "LETTERS" "abcdefghijklmnopqrstuvwxyz" K, strB "DIGITS" "0123456789" K]
section
variable {P : Program} {w : World} {K : PySem.W.Frag} {mg : Str → Option Value} {base : Heap}
theorem tabU (hd : HdOk fa fn tq exs K mg base) : (tq.map fun p => (He.cT K p.1).2).Nodup := of_decide_eq_true (hd.ex 0)
theorem xo_BadNumber (hd : HdOk fa fn tq exs K mg base) : ExcOk P w K mg base (gxOf tq K mg) 1 "BadNumber" ["part"] := by
  obtain ⟨fd, Fu⟩ := hd.df 30 (d := df30)
  exact excOk hd (hd.ex 4) (init1 Fu (C8.fnScope_by (by decide +kernel)) (by decide) (by decide)) (FunD.bindsN (ps := ["self", "part"]) Fu fun _ _ _ _ _ _ us hl => match us, hl with | [_, _], _ => rfl) (by decide)
theorem sc__law_cup : FnScope ["_law_script", "_law_number", "_law_cell"] ["_law_script"] (defScope s__law_cup) := C8.fnScope_by (by decide +kernel)
theorem o__law_cup {fd : FuncData} (hd : HdOk fa fn tq exs K mg base) (Fu : FunD K "_law_cup" "_law_cup" (defArgs s__law_cup) (defBody s__law_cup) (defScope s__law_cup) [] [] (He.ga K "_law_cup") fd) : FnOk P w K mg base (L2.CX P w) 1 (He.ga K "_law_cup") fd ["_law_script"] (spM (gxOf tq K mg) 1 f__law_cup) :=
  fnD (N := ["_law_script", "_law_number", "_law_cell"]) (k := 0) (m := m__law_cup) rfl Fu sc__law_cup fun cdv A outer s H E F hc eG hr ft => by
    obtain ⟨G', Φ0, H0, Pl, rw⟩ := F; cases eG
    exact (bl_cons (sm_set 1 ft.nd em_int) (bl_cons (sm_for ft (im_seq ft (em_sl ft.K (em_var 0) om_none (om_some em_int))) (gm_name 2 ft.nd) (bl_one (sm_set 1 ft.nd (x_add ft (x_mul (em_var 1) em_int) (x_mod (x_add ft (x_mul em_int (x_abs (hd.free 34) (lm_cons (x_int (hd.free 33) (lm_cons (em_var 2) lm_nil)) lm_nil))) (x_int (hd.free 33) (lm_cons (x_lt (em_var 2) em_int) lm_nil))) (x_pow (x_pow em_int em_int) em_int)))))) (bl_one (sm_ret (em_lst (lm_cons (em_var 1) (lm_cons em_int (lm_cons (x_mod (x_int (hd.free 33) (lm_cons (em_var 1) lm_nil)) em_int) lm_nil))))))))
theorem d__law_cup (hd : HdOk fa fn tq exs K mg base) : DefOk P w K mg base (gxOf tq K mg) 1 "_law_cup" 1 f__law_cup := by
  obtain ⟨fd, Fu⟩ := hd.df 0 (d := df0)
  exact ⟨⟨_, fd, _, o__law_cup hd Fu, hd.glo 17, Fu.kp, FunD.bindsN (ps := ["_law_script"]) Fu (fun _ _ _ _ _ _ us hl => match us, hl with | [_], _ => rfl)⟩, proper_run, arity_run⟩
theorem sc__law_dip : FnScope ["_law_cup_here", "_law_many", "_law_digit"] ["_law_cup_here", "_law_many"] (defScope s__law_dip) := C8.fnScope_by (by decide +kernel)
theorem o__law_dip {fd : FuncData} (hd : HdOk fa fn tq exs K mg base) (Fu : FunD K "_law_dip" "_law_dip" (defArgs s__law_dip) (defBody s__law_dip) (defScope s__law_dip) [] [] (He.ga K "_law_dip") fd) : FnOk P w K mg base (L2.CX P w) 1 (He.ga K "_law_dip") fd ["_law_cup_here", "_law_many"] (spM (gxOf tq K mg) 2 f__law_dip) :=
  fnD (N := ["_law_cup_here", "_law_many", "_law_digit"]) (k := 0) (m := m__law_dip) rfl Fu sc__law_dip fun cdv A outer s H E F hc eG hr ft => by
    obtain ⟨G', Φ0, H0, Pl, rw⟩ := F; cases eG
    exact (bl_cons (sm_if (t_eq ft (unitsOk hr) (x_ix ft (em_var 0) em_int) em_int) (bl_cons (sm_setIx (x_add ft (x_ix ft (em_var 0) em_int) em_int) (em_var 0) em_int) (bl_one (sm_setIx (x_pow (x_add ft (x_add ft (x_mul (x_ix ft (em_var 0) em_int) (x_add ft (x_mul em_int (x_ix ft (em_var 0) em_int)) em_int)) (x_mul em_int (x_ix ft (em_var 0) em_int))) em_int) em_int) (em_var 0) em_int))) bl_nil) (bl_cons (sm_set 2 ft.nd (x_mod (x_int (hd.free 33) (lm_cons (x_ix ft (em_var 0) em_int) lm_nil)) (em_var 1))) (bl_cons (sm_setIx (x_div (x_int (hd.free 33) (lm_cons (x_ix ft (em_var 0) em_int) lm_nil)) (em_var 1)) (em_var 0) em_int) (bl_one (sm_ret (em_var 2))))))
theorem d__law_dip (hd : HdOk fa fn tq exs K mg base) : DefOk P w K mg base (gxOf tq K mg) 1 "_law_dip" 2 f__law_dip := by
  obtain ⟨fd, Fu⟩ := hd.df 1 (d := df1)
  exact ⟨⟨_, fd, _, o__law_dip hd Fu, hd.glo 18, Fu.kp, FunD.bindsN (ps := ["_law_cup_here", "_law_many"]) Fu (fun _ _ _ _ _ _ us hl => match us, hl with | [_, _], _ => rfl)⟩, proper_run, arity_run⟩
theorem sc__law_pick : FnScope ["_law_cup_here", "_law_some"] ["_law_cup_here", "_law_some"] (defScope s__law_pick) := C8.fnScope_by (by decide +kernel)
theorem o__law_pick {fd : FuncData} (hd : HdOk fa fn tq exs K mg base) (Fu : FunD K "_law_pick" "_law_pick" (defArgs s__law_pick) (defBody s__law_pick) (defScope s__law_pick) [] [] (He.ga K "_law_pick") fd) : FnOk P w K mg base (L2.CX P w) 2 (He.ga K "_law_pick") fd ["_law_cup_here", "_law_some"] (spM (gxOf tq K mg) 2 f__law_pick) :=
  fnD (N := ["_law_cup_here", "_law_some"]) (k := 1) (m := m__law_pick) rfl Fu sc__law_pick fun cdv A outer s H E F hc eG hr ft => by
    obtain ⟨G', Φ0, H0, Pl, rw⟩ := F; cases eG
    exact (bl_one (sm_ret (x_ix ft (em_var 1) (em_callL ft (hr.mono (by decide)) (d__law_dip hd) (lm_cons (em_var 0) (lm_cons (x_len ft (hd.free 38) (lm_cons (em_var 1) lm_nil)) lm_nil))))))
theorem d__law_pick (hd : HdOk fa fn tq exs K mg base) : DefOk P w K mg base (gxOf tq K mg) 2 "_law_pick" 2 f__law_pick := by
  obtain ⟨fd, Fu⟩ := hd.df 2 (d := df2)
  exact ⟨⟨_, fd, _, o__law_pick hd Fu, hd.glo 19, Fu.kp, FunD.bindsN (ps := ["_law_cup_here", "_law_some"]) Fu (fun _ _ _ _ _ _ us hl => match us, hl with | [_, _], _ => rfl)⟩, proper_run, arity_run⟩
theorem sc_measure : FnScope ["values", "found", "value", "one", "other"] ["values"] (defScope s_measure) := C8.fnScope_by (by decide +kernel)
theorem o_measure {fd : FuncData} (hd : HdOk fa fn tq exs K mg base) (Fu : FunD K "measure" "measure" (defArgs s_measure) (defBody s_measure) (defScope s_measure) [] [] (He.ga K "measure") fd) : FnOk P w K mg base (L2.CX P w) 1 (He.ga K "measure") fd ["values"] (spM (gxOf tq K mg) 1 f_measure) :=
  fnD (N := ["values", "found", "value", "one", "other"]) (k := 0) (m := m_measure) rfl Fu sc_measure fun cdv A outer s H E F hc eG hr ft => by
    obtain ⟨G', Φ0, H0, Pl, rw⟩ := F; cases eG
    exact (bl_cons (sm_set 1 ft.nd em_int) (bl_cons (sm_for ft (im_seq ft (em_var 0)) (gm_name 2 ft.nd) (bl_cons (sm_par 3 4 ft.calm ft.nd (lm_cons (em_var 1) (lm_cons (x_abs (hd.free 34) (lm_cons (em_var 2) lm_nil)) lm_nil))) (bl_cons (sm_while ft (t_ne ft (unitsOk hr) (em_var 4) em_int) (bl_one (sm_par 3 4 ft.calm ft.nd (lm_cons (em_var 4) (lm_cons (x_mod (em_var 3) (em_var 4)) lm_nil))))) (bl_one (sm_set 1 ft.nd (em_var 3)))))) (bl_one (sm_ret (em_var 1)))))
theorem d_measure (hd : HdOk fa fn tq exs K mg base) : DefOk P w K mg base (gxOf tq K mg) 1 "measure" 1 f_measure := by
  obtain ⟨fd, Fu⟩ := hd.df 3 (d := df3)
  exact ⟨⟨_, fd, _, o_measure hd Fu, hd.glo 11, Fu.kp, FunD.bindsN (ps := ["values"]) Fu (fun _ _ _ _ _ _ us hl => match us, hl with | [_], _ => rfl)⟩, proper_run, arity_run⟩
theorem sc_is_integer : FnScope ["value"] ["value"] (defScope s_is_integer) := C8.fnScope_by (by decide +kernel)
theorem o_is_integer {fd : FuncData} (hd : HdOk fa fn tq exs K mg base) (Fu : FunD K "is_integer" "is_integer" (defArgs s_is_integer) (defBody s_is_integer) (defScope s_is_integer) [] [] (He.ga K "is_integer") fd) : FnOk P w K mg base (L2.CX P w) 1 (He.ga K "is_integer") fd ["value"] (spM (gxOf tq K mg) 1 f_is_integer) :=
  fnD (N := ["value"]) (k := 0) (m := m_is_integer) rfl Fu sc_is_integer fun cdv A outer s H E F hc eG hr ft => by
    obtain ⟨G', Φ0, H0, Pl, rw⟩ := F; cases eG
    exact (bl_one (sm_ret (em_and (x_isi ft (isOk hd (hd.ex 1)) (hd.free 36) (lm_cons (em_var 0) (lm_cons (em_gty (hd.free 33)) lm_nil))) (em_one (em_not (x_isi ft (isOk hd (hd.ex 1)) (hd.free 36) (lm_cons (em_var 0) (lm_cons (em_gty (hd.free 43)) lm_nil))))))))
theorem d_is_integer (hd : HdOk fa fn tq exs K mg base) : DefOk P w K mg base (gxOf tq K mg) 1 "is_integer" 1 f_is_integer := by
  obtain ⟨fd, Fu⟩ := hd.df 4 (d := df4)
  exact ⟨⟨_, fd, _, o_is_integer hd Fu, hd.glo 2, Fu.kp, FunD.bindsN (ps := ["value"]) Fu (fun _ _ _ _ _ _ us hl => match us, hl with | [_], _ => rfl)⟩, proper_run, arity_run⟩
theorem kw_is_integer_0 (hd : HdOk fa fn tq exs K mg base) : KwOk P w K mg base (gxOf tq K mg) 1 "is_integer" 1 ["value"] [0] f_is_integer := by
  obtain ⟨fd, Fu⟩ := hd.df 4 (d := df4)
  exact kwOk (d_is_integer hd) Fu (hd.glo 2) rfl (fun _ _ _ _ _ _ us hl => match us, hl with | [_], _ => rfl) (o_is_integer hd Fu)
theorem sc_are_integers : FnScope ["value", "each"] ["value"] (defScope s_are_integers) := C8.fnScope_by (by decide +kernel)
theorem o_are_integers {fd : FuncData} (hd : HdOk fa fn tq exs K mg base) (Fu : FunD K "are_integers" "are_integers" (defArgs s_are_integers) (defBody s_are_integers) (defScope s_are_integers) [] [] (He.ga K "are_integers") fd) : FnOk P w K mg base (L2.CX P w) 2 (He.ga K "are_integers") fd ["value"] (spM (gxOf tq K mg) 1 f_are_integers) :=
  fnD (N := ["value", "each"]) (k := 1) (m := m_are_integers) rfl Fu sc_are_integers fun cdv A outer s H E F hc eG hr ft => by
    obtain ⟨G', Φ0, H0, Pl, rw⟩ := F; cases eG
    exact (bl_one (sm_ret (em_and (x_isi ft (isOk hd (hd.ex 1)) (hd.free 36) (lm_cons (em_var 0) (lm_cons (em_tup (lm_cons (em_gty (hd.free 39)) (lm_cons (em_gty (hd.free 35)) lm_nil))) lm_nil))) (em_one (x_all ft (hd.free 44) (lm_cons (em_comp [("each", 1)] ft (im_seq ft (em_var 0)) (fun s H C cl fp ft => (gm_name 1 ft.nd)) (fun s H C cl fp ft => pts_yes) (fun s H C cl fp ft => (em_callV ft (hr.mono (by decide)) (d_is_integer hd) (lm_cons (em_var 1) lm_nil)))) lm_nil))))))
theorem d_are_integers (hd : HdOk fa fn tq exs K mg base) : DefOk P w K mg base (gxOf tq K mg) 2 "are_integers" 1 f_are_integers := by
  obtain ⟨fd, Fu⟩ := hd.df 5 (d := df5)
  exact ⟨⟨_, fd, _, o_are_integers hd Fu, hd.glo 5, Fu.kp, FunD.bindsN (ps := ["value"]) Fu (fun _ _ _ _ _ _ us hl => match us, hl with | [_], _ => rfl)⟩, proper_run, arity_run⟩
theorem kw_are_integers_0 (hd : HdOk fa fn tq exs K mg base) : KwOk P w K mg base (gxOf tq K mg) 2 "are_integers" 1 ["value"] [0] f_are_integers := by
  obtain ⟨fd, Fu⟩ := hd.df 5 (d := df5)
  exact kwOk (d_are_integers hd) Fu (hd.glo 5) rfl (fun _ _ _ _ _ _ us hl => match us, hl with | [_], _ => rfl) (o_are_integers hd Fu)
theorem sc_need_numbers : FnScope ["value", "part"] ["value", "part"] (defScope s_need_numbers) := C8.fnScope_by (by decide +kernel)
theorem o_need_numbers {fd : FuncData} (hd : HdOk fa fn tq exs K mg base) (Fu : FunD K "need_numbers" "need_numbers" (defArgs s_need_numbers) (defBody s_need_numbers) (defScope s_need_numbers) [] [] (He.ga K "need_numbers") fd) : FnOk P w K mg base (L2.CX P w) 3 (He.ga K "need_numbers") fd ["value", "part"] (spM (gxOf tq K mg) 2 f_need_numbers) :=
  fnD (N := ["value", "part"]) (k := 2) (m := m_need_numbers) rfl Fu sc_need_numbers fun cdv A outer s H E F hc eG hr ft => by
    obtain ⟨G', Φ0, H0, Pl, rw⟩ := F; cases eG
    exact (bl_one (sm_if (bm_not (bm_val (em_callV ft (hr.mono (by decide)) (d_are_integers hd) (lm_cons (em_var 0) lm_nil)))) (bl_one (sm_raise ft (hr.mono (by decide)) (xo_BadNumber hd) (lm_cons (em_var 1) lm_nil))) bl_nil))
theorem d_need_numbers (hd : HdOk fa fn tq exs K mg base) : DefOk P w K mg base (gxOf tq K mg) 3 "need_numbers" 2 f_need_numbers := by
  obtain ⟨fd, Fu⟩ := hd.df 6 (d := df6)
  exact ⟨⟨_, fd, _, o_need_numbers hd Fu, hd.glo 10, Fu.kp, FunD.bindsN (ps := ["value", "part"]) Fu (fun _ _ _ _ _ _ us hl => match us, hl with | [_, _], _ => rfl)⟩, proper_run, arity_run⟩
theorem sc_common_divisor : FnScope ["values"] ["values"] (defScope s_common_divisor) := C8.fnScope_by (by decide +kernel)
theorem o_common_divisor {fd : FuncData} (hd : HdOk fa fn tq exs K mg base) (Fu : FunD K "common_divisor" "common_divisor" (defArgs s_common_divisor) (defBody s_common_divisor) (defScope s_common_divisor) [] [] (He.ga K "common_divisor") fd) : FnOk P w K mg base (L2.CX P w) 4 (He.ga K "common_divisor") fd ["values"] (spM (gxOf tq K mg) 1 f_common_divisor) :=
  fnD (N := ["values"]) (k := 3) (m := m_common_divisor) rfl Fu sc_common_divisor fun cdv A outer s H E F hc eG hr ft => by
    obtain ⟨G', Φ0, H0, Pl, rw⟩ := F; cases eG
    exact (bl_cons (sm_expr (em_callV ft (hr.mono (by decide)) (d_need_numbers hd) (lm_cons (em_var 0) (lm_cons em_str lm_nil)))) (bl_one (sm_ret (em_callV ft (hr.mono (by decide)) (d_measure hd) (lm_cons (em_var 0) lm_nil)))))
theorem d_common_divisor (hd : HdOk fa fn tq exs K mg base) : DefOk P w K mg base (gxOf tq K mg) 4 "common_divisor" 1 f_common_divisor := by
  obtain ⟨fd, Fu⟩ := hd.df 7 (d := df7)
  exact ⟨⟨_, fd, _, o_common_divisor hd Fu, hd.glo 12, Fu.kp, FunD.bindsN (ps := ["values"]) Fu (fun _ _ _ _ _ _ us hl => match us, hl with | [_], _ => rfl)⟩, proper_run, arity_run⟩
theorem kw_common_divisor_0 (hd : HdOk fa fn tq exs K mg base) : KwOk P w K mg base (gxOf tq K mg) 4 "common_divisor" 1 ["values"] [0] f_common_divisor := by
  obtain ⟨fd, Fu⟩ := hd.df 7 (d := df7)
  exact kwOk (d_common_divisor hd) Fu (hd.glo 12) rfl (fun _ _ _ _ _ _ us hl => match us, hl with | [_], _ => rfl) (o_common_divisor hd Fu)
theorem sc_reduced : FnScope ["values", "shared", "value"] ["values"] (defScope s_reduced) := C8.fnScope_by (by decide +kernel)
theorem o_reduced {fd : FuncData} (hd : HdOk fa fn tq exs K mg base) (Fu : FunD K "reduced" "reduced" (defArgs s_reduced) (defBody s_reduced) (defScope s_reduced) [] [] (He.ga K "reduced") fd) : FnOk P w K mg base (L2.CX P w) 2 (He.ga K "reduced") fd ["values"] (spM (gxOf tq K mg) 1 f_reduced) :=
  fnD (N := ["values", "shared", "value"]) (k := 1) (m := m_reduced) rfl Fu sc_reduced fun cdv A outer s H E F hc eG hr ft => by
    obtain ⟨G', Φ0, H0, Pl, rw⟩ := F; cases eG
    exact (bl_cons (sm_set 1 ft.nd (em_callV ft (hr.mono (by decide)) (d_measure hd) (lm_cons (em_var 0) lm_nil))) (bl_cons (sm_if (t_eq ft (unitsOk hr) (em_var 1) em_int) (bl_one (sm_ret (x_tuple ft (hd.free 35) (lm_cons (em_var 0) lm_nil)))) bl_nil) (bl_cons (sm_if (t_lt (x_ix ft (em_comp [("value", 2)] ft (im_seq ft (em_var 0)) (fun s H C cl fp ft => (gm_name 2 ft.nd)) (fun s H C cl fp ft => (pts_m (t_ne ft (unitsOk hr) (em_var 2) em_int))) (fun s H C cl fp ft => (em_var 2))) em_int) em_int) (bl_one (sm_set 1 ft.nd (x_neg (em_var 1)))) bl_nil) (bl_one (sm_ret (x_tuple ft (hd.free 35) (lm_cons (em_comp [("value", 2)] ft (im_seq ft (em_var 0)) (fun s H C cl fp ft => (gm_name 2 ft.nd)) (fun s H C cl fp ft => pts_yes) (fun s H C cl fp ft => (x_div (em_var 2) (em_var 1)))) lm_nil)))))))
theorem d_reduced (hd : HdOk fa fn tq exs K mg base) : DefOk P w K mg base (gxOf tq K mg) 2 "reduced" 1 f_reduced := by
  obtain ⟨fd, Fu⟩ := hd.df 8 (d := df8)
  exact ⟨⟨_, fd, _, o_reduced hd Fu, hd.glo 14, Fu.kp, FunD.bindsN (ps := ["values"]) Fu (fun _ _ _ _ _ _ us hl => match us, hl with | [_], _ => rfl)⟩, proper_run, arity_run⟩
theorem sc_primitive : FnScope ["values"] ["values"] (defScope s_primitive) := C8.fnScope_by (by decide +kernel)
theorem o_primitive {fd : FuncData} (hd : HdOk fa fn tq exs K mg base) (Fu : FunD K "primitive" "primitive" (defArgs s_primitive) (defBody s_primitive) (defScope s_primitive) [] [] (He.ga K "primitive") fd) : FnOk P w K mg base (L2.CX P w) 4 (He.ga K "primitive") fd ["values"] (spM (gxOf tq K mg) 1 f_primitive) :=
  fnD (N := ["values"]) (k := 3) (m := m_primitive) rfl Fu sc_primitive fun cdv A outer s H E F hc eG hr ft => by
    obtain ⟨G', Φ0, H0, Pl, rw⟩ := F; cases eG
    exact (bl_cons (sm_expr (em_callV ft (hr.mono (by decide)) (d_need_numbers hd) (lm_cons (em_var 0) (lm_cons em_str lm_nil)))) (bl_one (sm_ret (em_callV ft (hr.mono (by decide)) (d_reduced hd) (lm_cons (em_var 0) lm_nil)))))
theorem d_primitive (hd : HdOk fa fn tq exs K mg base) : DefOk P w K mg base (gxOf tq K mg) 4 "primitive" 1 f_primitive := by
  obtain ⟨fd, Fu⟩ := hd.df 9 (d := df9)
  exact ⟨⟨_, fd, _, o_primitive hd Fu, hd.glo 13, Fu.kp, FunD.bindsN (ps := ["values"]) Fu (fun _ _ _ _ _ _ us hl => match us, hl with | [_], _ => rfl)⟩, proper_run, arity_run⟩
theorem kw_primitive_0 (hd : HdOk fa fn tq exs K mg base) : KwOk P w K mg base (gxOf tq K mg) 4 "primitive" 1 ["values"] [0] f_primitive := by
  obtain ⟨fd, Fu⟩ := hd.df 9 (d := df9)
  exact kwOk (d_primitive hd) Fu (hd.glo 13) rfl (fun _ _ _ _ _ _ us hl => match us, hl with | [_], _ => rfl) (o_primitive hd Fu)
theorem sc__law_divides : FnScope ["_law_part_here", "_law_numbers", "_law_number"] ["_law_part_here", "_law_numbers"] (defScope s__law_divides) := C8.fnScope_by (by decide +kernel)
theorem o__law_divides {fd : FuncData} (hd : HdOk fa fn tq exs K mg base) (Fu : FunD K "_law_divides" "_law_divides" (defArgs s__law_divides) (defBody s__law_divides) (defScope s__law_divides) [] [] (He.ga K "_law_divides") fd) : FnOk P w K mg base (L2.CX P w) 1 (He.ga K "_law_divides") fd ["_law_part_here", "_law_numbers"] (spM (gxOf tq K mg) 2 f__law_divides) :=
  fnD (N := ["_law_part_here", "_law_numbers", "_law_number"]) (k := 0) (m := m__law_divides) rfl Fu sc__law_divides fun cdv A outer s H E F hc eG hr ft => by
    obtain ⟨G', Φ0, H0, Pl, rw⟩ := F; cases eG
    exact (bl_one (sm_ret (x_eq ft (unitsOk hr) (em_comp [("_law_number", 2)] ft (im_seq ft (em_var 1)) (fun s H C cl fp ft => (gm_name 2 ft.nd)) (fun s H C cl fp ft => (pts_m (t_ne ft (unitsOk hr) (x_mul (x_div (em_var 2) (em_var 0)) (em_var 0)) (em_var 2)))) (fun s H C cl fp ft => (em_var 2))) (em_lst lm_nil))))
theorem d__law_divides (hd : HdOk fa fn tq exs K mg base) : DefOk P w K mg base (gxOf tq K mg) 1 "_law_divides" 2 f__law_divides := by
  obtain ⟨fd, Fu⟩ := hd.df 10 (d := df10)
  exact ⟨⟨_, fd, _, o__law_divides hd Fu, hd.glo 25, Fu.kp, FunD.bindsN (ps := ["_law_part_here", "_law_numbers"]) Fu (fun _ _ _ _ _ _ us hl => match us, hl with | [_, _], _ => rfl)⟩, proper_run, arity_run⟩
theorem sc__law_measure : FnScope ["_law_numbers", "_law_most", "_law_number", "_law_part_here"] ["_law_numbers"] (defScope s__law_measure) := C8.fnScope_by (by decide +kernel)
theorem o__law_measure {fd : FuncData} (hd : HdOk fa fn tq exs K mg base) (Fu : FunD K "_law_measure" "_law_measure" (defArgs s__law_measure) (defBody s__law_measure) (defScope s__law_measure) [] [] (He.ga K "_law_measure") fd) : FnOk P w K mg base (L2.CX P w) 2 (He.ga K "_law_measure") fd ["_law_numbers"] (spM (gxOf tq K mg) 1 f__law_measure) :=
  fnD (N := ["_law_numbers", "_law_most", "_law_number", "_law_part_here"]) (k := 1) (m := m__law_measure) rfl Fu sc__law_measure fun cdv A outer s H E F hc eG hr ft => by
    obtain ⟨G', Φ0, H0, Pl, rw⟩ := F; cases eG
    exact (bl_cons (sm_set 1 ft.nd (x_max ft (hd.free 42) (lm_cons (x_add ft (em_comp [("_law_number", 2)] ft (im_seq ft (em_var 0)) (fun s H C cl fp ft => (gm_name 2 ft.nd)) (fun s H C cl fp ft => pts_yes) (fun s H C cl fp ft => (x_abs (hd.free 34) (lm_cons (em_var 2) lm_nil)))) (em_lst (lm_cons em_int lm_nil))) lm_nil))) (bl_one (sm_ret (x_max ft (hd.free 42) (lm_cons (x_add ft (em_comp [("_law_part_here", 3)] ft (im_range2 (hd.free 32) (lm_cons em_int (lm_cons (x_add ft (em_var 1) em_int) lm_nil))) (fun s H C cl fp ft => (gm_name 3 ft.nd)) (fun s H C cl fp ft => (pts_m (bm_val (em_callV ft (hr.mono (by decide)) (d__law_divides hd) (lm_cons (em_var 3) (lm_cons (em_var 0) lm_nil)))))) (fun s H C cl fp ft => (em_var 3))) (em_lst (lm_cons em_int lm_nil))) lm_nil)))))
theorem d__law_measure (hd : HdOk fa fn tq exs K mg base) : DefOk P w K mg base (gxOf tq K mg) 2 "_law_measure" 1 f__law_measure := by
  obtain ⟨fd, Fu⟩ := hd.df 11 (d := df11)
  exact ⟨⟨_, fd, _, o__law_measure hd Fu, hd.glo 26, Fu.kp, FunD.bindsN (ps := ["_law_numbers"]) Fu (fun _ _ _ _ _ _ us hl => match us, hl with | [_], _ => rfl)⟩, proper_run, arity_run⟩
theorem sc__law_same : FnScope ["_law_told", "_law_due"] ["_law_told", "_law_due"] (defScope s__law_same) := C8.fnScope_by (by decide +kernel)
theorem o__law_same {fd : FuncData} (hd : HdOk fa fn tq exs K mg base) (Fu : FunD K "_law_same" "_law_same" (defArgs s__law_same) (defBody s__law_same) (defScope s__law_same) [] [] (He.ga K "_law_same") fd) : FnOk P w K mg base (L2.CX P w) 1 (He.ga K "_law_same") fd ["_law_told", "_law_due"] (spM (gxOf tq K mg) 2 f__law_same) :=
  fnD (N := ["_law_told", "_law_due"]) (k := 0) (m := m__law_same) rfl Fu sc__law_same fun cdv A outer s H E F hc eG hr ft => by
    obtain ⟨G', Φ0, H0, Pl, rw⟩ := F; cases eG
    exact (bl_one (sm_ret (em_and (x_isi ft (isOk hd (hd.ex 1)) (hd.free 36) (lm_cons (em_var 0) (lm_cons (em_gty (hd.free 43)) lm_nil))) (em_one (x_eq ft (unitsOk hr) (em_var 0) (em_var 1))))))
theorem d__law_same (hd : HdOk fa fn tq exs K mg base) : DefOk P w K mg base (gxOf tq K mg) 1 "_law_same" 2 f__law_same := by
  obtain ⟨fd, Fu⟩ := hd.df 12 (d := df12)
  exact ⟨⟨_, fd, _, o__law_same hd Fu, hd.glo 22, Fu.kp, FunD.bindsN (ps := ["_law_told", "_law_due"]) Fu (fun _ _ _ _ _ _ us hl => match us, hl with | [_, _], _ => rfl)⟩, proper_run, arity_run⟩
theorem sc_is_primitive : FnScope ["value", "each"] ["value"] (defScope s_is_primitive) := C8.fnScope_by (by decide +kernel)
theorem o_is_primitive {fd : FuncData} (hd : HdOk fa fn tq exs K mg base) (Fu : FunD K "is_primitive" "is_primitive" (defArgs s_is_primitive) (defBody s_is_primitive) (defScope s_is_primitive) [] [] (He.ga K "is_primitive") fd) : FnOk P w K mg base (L2.CX P w) 3 (He.ga K "is_primitive") fd ["value"] (spM (gxOf tq K mg) 1 f_is_primitive) :=
  fnD (N := ["value", "each"]) (k := 2) (m := m_is_primitive) rfl Fu sc_is_primitive fun cdv A outer s H E F hc eG hr ft => by
    obtain ⟨G', Φ0, H0, Pl, rw⟩ := F; cases eG
    exact (bl_one (sm_ret (em_and (em_callV ft (hr.mono (by decide)) (d_are_integers hd) (lm_cons (em_var 0) lm_nil)) (em_and (x_eq ft (unitsOk hr) (em_callV ft (hr.mono (by decide)) (d_measure hd) (lm_cons (em_var 0) lm_nil)) em_int) (em_one (x_gt (x_ix ft (em_comp [("each", 1)] ft (im_seq ft (em_var 0)) (fun s H C cl fp ft => (gm_name 1 ft.nd)) (fun s H C cl fp ft => (pts_m (t_ne ft (unitsOk hr) (em_var 1) em_int))) (fun s H C cl fp ft => (em_var 1))) em_int) em_int))))))
theorem d_is_primitive (hd : HdOk fa fn tq exs K mg base) : DefOk P w K mg base (gxOf tq K mg) 3 "is_primitive" 1 f_is_primitive := by
  obtain ⟨fd, Fu⟩ := hd.df 13 (d := df13)
  exact ⟨⟨_, fd, _, o_is_primitive hd Fu, hd.glo 7, Fu.kp, FunD.bindsN (ps := ["value"]) Fu (fun _ _ _ _ _ _ us hl => match us, hl with | [_], _ => rfl)⟩, proper_run, arity_run⟩
theorem kw_is_primitive_0 (hd : HdOk fa fn tq exs K mg base) : KwOk P w K mg base (gxOf tq K mg) 3 "is_primitive" 1 ["value"] [0] f_is_primitive := by
  obtain ⟨fd, Fu⟩ := hd.df 13 (d := df13)
  exact kwOk (d_is_primitive hd) Fu (hd.glo 7) rfl (fun _ _ _ _ _ _ us hl => match us, hl with | [_], _ => rfl) (o_is_primitive hd Fu)
theorem sc__law_divisors_right : FnScope ["_law_cup_here", "_law_shared", "_law_row", "_law_turn", "_law_found", "_law_due", "_law_told", "_law_first", "_law_number", "_law_one", "_law_other", "_law_great", "_law_odd"] ["_law_cup_here"] (defScope s__law_divisors_right) := C8.fnScope_by (by decide +kernel)
theorem o__law_divisors_right {fd : FuncData} (hd : HdOk fa fn tq exs K mg base) (Fu : FunD K "_law_divisors_right" "_law_divisors_right" (defArgs s__law_divisors_right) (defBody s__law_divisors_right) (defScope s__law_divisors_right) [] [] (He.ga K "_law_divisors_right") fd) : FnOk P w K mg base (L2.CX P w) 5 (He.ga K "_law_divisors_right") fd ["_law_cup_here"] (spM (gxOf tq K mg) 1 f__law_divisors_right) :=
  fnD (N := ["_law_cup_here", "_law_shared", "_law_row", "_law_turn", "_law_found", "_law_due", "_law_told", "_law_first", "_law_number", "_law_one", "_law_other", "_law_great", "_law_odd"]) (k := 4) (m := m__law_divisors_right) rfl Fu sc__law_divisors_right fun cdv A outer s H E F hc eG hr ft => by
    obtain ⟨G', Φ0, H0, Pl, rw⟩ := F; cases eG
    exact (bl_cons (sm_set 1 ft.nd (em_callL ft (hr.mono (by decide)) (d__law_dip hd) (lm_cons (em_var 0) (lm_cons em_int lm_nil)))) (bl_cons (sm_setComp 2 [("_law_turn", 3)] ft (im_range1 (hd.free 32) (lm_cons (em_callL ft (hr.mono (by decide)) (d__law_dip hd) (lm_cons (em_var 0) (lm_cons em_int lm_nil))) lm_nil)) (fun s H C cl fp ft => (gm_name 3 ft.nd)) (fun s H C cl fp ft => pts_yes) (fun s H C cl fp ft => (x_mul (x_sub (em_callL ft (hr.mono (by decide)) (d__law_dip hd) (lm_cons (em_var 0) (lm_cons em_int lm_nil))) em_int) (em_var 1)))) (bl_cons (sm_asg (em_tup (lm_cons (em_callK (ks := ["values"]) (ix := [0]) ft (hr.mono (by decide)) (kw_common_divisor_0 hd) (km_cons (em_var 2) km_nil)) (lm_cons (em_callV ft (hr.mono (by decide)) (d__law_measure hd) (lm_cons (em_var 2) lm_nil)) lm_nil))) (gm_tup 2 ft.K ft.calm (gsm_cons (gm_name 4 ft.nd) (gsm_cons (gm_name 5 ft.nd) gsm_nil)))) (bl_cons (sm_if (wm_or (t_ne ft (unitsOk hr) (em_var 4) (em_var 5)) (wm_or (t_ne ft (unitsOk hr) (em_callV ft (hr.mono (by decide)) (d_common_divisor hd) (lm_cons (x_tuple ft (hd.free 35) (lm_cons (em_rev ft (em_var 2)) lm_nil)) lm_nil)) (em_var 5)) (wm_or1 (bm_not (bm_val (em_callV ft (hr.mono (by decide)) (d_is_integer hd) (lm_cons (em_var 4) lm_nil))))))).pt (bl_one (sm_ret em_bl)) bl_nil) (bl_cons (sm_asg (em_tup (lm_cons (em_callK (ks := ["values"]) (ix := [0]) ft (hr.mono (by decide)) (kw_primitive_0 hd) (km_cons (em_var 2) km_nil)) (lm_cons (x_ix ft (x_add ft (em_comp [("_law_number", 8)] ft (im_seq ft (em_var 2)) (fun s H C cl fp ft => (gm_name 8 ft.nd)) (fun s H C cl fp ft => (pts_m (t_ne ft (unitsOk hr) (em_var 8) em_int))) (fun s H C cl fp ft => (em_var 8))) (em_lst (lm_cons em_int lm_nil))) em_int) lm_nil))) (gm_tup 2 ft.K ft.calm (gsm_cons (gm_name 6 ft.nd) (gsm_cons (gm_name 7 ft.nd) gsm_nil)))) (bl_cons (sm_if (wm_or (bm_not (bm_val (x_isi ft (isOk hd (hd.ex 1)) (hd.free 36) (lm_cons (em_var 6) (lm_cons (em_gty (hd.free 35)) lm_nil))))) (wm_or (t_ne ft (unitsOk hr) (em_comp [("_law_one", 9), ("_law_other", 10)] ft (im_zipM ft (hd.free 37) (lm_cons (em_var 6) (lm_cons (em_var 2) lm_nil))) (fun s H C cl fp ft => (gm_tup 2 ft.K ft.calm (gsm_cons (gm_name 9 ft.nd) (gsm_cons (gm_name 10 ft.nd) gsm_nil)))) (fun s H C cl fp ft => (pts_m (t_ne ft (unitsOk hr) (x_mul (x_mul (em_var 9) (em_var 5)) (em_if (t_gt (em_var 7) em_int) em_int (x_neg em_int))) (em_var 10)))) (fun s H C cl fp ft => em_int)) (em_lst lm_nil)) (wm_or1 (t_ne ft (unitsOk hr) (x_len ft (hd.free 38) (lm_cons (em_var 6) lm_nil)) (x_len ft (hd.free 38) (lm_cons (em_var 2) lm_nil)))))).pt (bl_one (sm_ret em_bl)) bl_nil) (bl_cons (sm_if (wm_and (t_eq ft (unitsOk hr) (em_var 7) em_int) (wm_and1 (t_ne ft (unitsOk hr) (em_var 6) (x_tuple ft (hd.free 35) (lm_cons (em_var 2) lm_nil))))).pt (bl_one (sm_ret em_bl)) bl_nil) (bl_cons (sm_if (wm_or (bm_not (bm_val (em_callV ft (hr.mono (by decide)) (d__law_same hd) (lm_cons (em_callV ft (hr.mono (by decide)) (d_is_primitive hd) (lm_cons (em_var 6) lm_nil)) (lm_cons (x_ne ft (unitsOk hr) (em_var 7) em_int) lm_nil))))) (wm_or1 (bm_not (bm_val (em_callV ft (hr.mono (by decide)) (d__law_same hd) (lm_cons (em_callK (ks := ["value"]) (ix := [0]) ft (hr.mono (by decide)) (kw_is_primitive_0 hd) (km_cons (em_var 2) km_nil)) (lm_cons (em_and (x_eq ft (unitsOk hr) (em_var 5) em_int) (em_one (x_gt (em_var 7) em_int))) lm_nil))))))).pt (bl_one (sm_ret em_bl)) bl_nil) (bl_cons (sm_set 11 ft.nd (x_add ft (x_pow em_int em_int) (em_callL ft (hr.mono (by decide)) (d__law_dip hd) (lm_cons (em_var 0) (lm_cons (x_pow em_int em_int) lm_nil))))) (bl_cons (sm_if (wm_or (t_ne ft (unitsOk hr) (em_callV ft (hr.mono (by decide)) (d_common_divisor hd) (lm_cons (em_comp [("_law_number", 8)] ft (im_seq ft (em_var 2)) (fun s H C cl fp ft => (gm_name 8 ft.nd)) (fun s H C cl fp ft => pts_yes) (fun s H C cl fp ft => (x_mul (em_var 11) (em_var 8)))) lm_nil)) (x_mul (em_var 11) (em_var 5))) (wm_or1 (t_ne ft (unitsOk hr) (em_callV ft (hr.mono (by decide)) (d_primitive hd) (lm_cons (em_comp [("_law_number", 8)] ft (im_seq ft (em_var 2)) (fun s H C cl fp ft => (gm_name 8 ft.nd)) (fun s H C cl fp ft => pts_yes) (fun s H C cl fp ft => (x_mul (x_neg (em_var 11)) (em_var 8)))) lm_nil)) (em_var 6)))).pt (bl_one (sm_ret em_bl)) bl_nil) (bl_cons (sm_set 12 ft.nd (em_callL ft (hr.mono (by decide)) (d__law_pick hd) (lm_cons (em_var 0) (lm_cons (em_lst (lm_cons em_non (lm_cons em_str (lm_cons em_dic1 (lm_cons (em_lst (lm_cons em_bl lm_nil)) (lm_cons (em_lst (lm_cons em_int (lm_cons em_bl lm_nil))) (lm_cons (em_lst (lm_cons em_non lm_nil)) (lm_cons (em_lst (lm_cons em_str lm_nil)) (lm_cons em_int (lm_cons (em_tup (lm_cons (em_tup (lm_cons em_int lm_nil)) lm_nil)) (lm_cons (em_lst lm_nil) (lm_cons (em_lst (lm_cons em_int lm_nil)) (lm_cons (em_tup (lm_cons em_int (lm_cons em_int lm_nil))) (lm_cons (em_lst (lm_cons em_int (lm_cons em_int lm_nil))) (lm_cons (em_lst (lm_cons (x_neg em_int) (lm_cons em_int lm_nil))) (lm_cons (em_lst (lm_cons em_int (lm_cons (x_neg em_int) (lm_cons em_int lm_nil)))) lm_nil)))))))))))))))) lm_nil)))) (bl_one (sm_ret (em_and (em_callV ft (hr.mono (by decide)) (d__law_same hd) (lm_cons (em_callV ft (hr.mono (by decide)) (d_is_primitive hd) (lm_cons (em_var 12) lm_nil)) (lm_cons em_bl lm_nil))) (em_and (em_callV ft (hr.mono (by decide)) (d__law_same hd) (lm_cons (em_callV ft (hr.mono (by decide)) (d_is_primitive hd) (lm_cons (em_lst (lm_cons em_int (lm_cons em_int lm_nil))) lm_nil)) (lm_cons em_bl lm_nil))) (em_and (x_eq ft (unitsOk hr) (em_callV ft (hr.mono (by decide)) (d_common_divisor hd) (lm_cons (em_tup lm_nil) lm_nil)) em_int) (em_one (x_eq ft (unitsOk hr) (em_callV ft (hr.mono (by decide)) (d_primitive hd) (lm_cons (em_lst lm_nil) lm_nil)) (em_tup lm_nil)))))))))))))))))))
theorem d__law_divisors_right (hd : HdOk fa fn tq exs K mg base) : DefOk P w K mg base (gxOf tq K mg) 5 "_law_divisors_right" 1 f__law_divisors_right := by
  obtain ⟨fd, Fu⟩ := hd.df 14 (d := df14)
  exact ⟨⟨_, fd, _, o__law_divisors_right hd Fu, hd.glo 27, Fu.kp, FunD.bindsN (ps := ["_law_cup_here"]) Fu (fun _ _ _ _ _ _ us hl => match us, hl with | [_], _ => rfl)⟩, proper_run, arity_run⟩
theorem sc__law_integer : FnScope ["_law_cup_here", "_law_small", "_law_great"] ["_law_cup_here"] (defScope s__law_integer) := C8.fnScope_by (by decide +kernel)
theorem o__law_integer {fd : FuncData} (hd : HdOk fa fn tq exs K mg base) (Fu : FunD K "_law_integer" "_law_integer" (defArgs s__law_integer) (defBody s__law_integer) (defScope s__law_integer) [] [] (He.ga K "_law_integer") fd) : FnOk P w K mg base (L2.CX P w) 3 (He.ga K "_law_integer") fd ["_law_cup_here"] (spM (gxOf tq K mg) 1 f__law_integer) :=
  fnD (N := ["_law_cup_here", "_law_small", "_law_great"]) (k := 2) (m := m__law_integer) rfl Fu sc__law_integer fun cdv A outer s H E F hc eG hr ft => by
    obtain ⟨G', Φ0, H0, Pl, rw⟩ := F; cases eG
    exact (bl_cons (sm_par 1 2 ft.calm ft.nd (lm_cons (x_sub (em_callL ft (hr.mono (by decide)) (d__law_dip hd) (lm_cons (em_var 0) (lm_cons em_int lm_nil))) em_int) (lm_cons (x_sub (em_callL ft (hr.mono (by decide)) (d__law_dip hd) (lm_cons (em_var 0) (lm_cons (x_pow em_int em_int) lm_nil))) (x_mul em_int (x_pow em_int em_int))) lm_nil))) (bl_one (sm_ret (em_callL ft (hr.mono (by decide)) (d__law_pick hd) (lm_cons (em_var 0) (lm_cons (em_lst (lm_cons (em_var 1) (lm_cons (em_var 1) (lm_cons (em_var 2) (lm_cons em_int (lm_cons em_int (lm_cons (x_neg em_int) lm_nil))))))) lm_nil))))))
theorem d__law_integer (hd : HdOk fa fn tq exs K mg base) : DefOk P w K mg base (gxOf tq K mg) 3 "_law_integer" 1 f__law_integer := by
  obtain ⟨fd, Fu⟩ := hd.df 15 (d := df15)
  exact ⟨⟨_, fd, _, o__law_integer hd Fu, hd.glo 20, Fu.kp, FunD.bindsN (ps := ["_law_cup_here"]) Fu (fun _ _ _ _ _ _ us hl => match us, hl with | [_], _ => rfl)⟩, proper_run, arity_run⟩
theorem sc__law_value : FnScope ["_law_cup_here", "_law_number"] ["_law_cup_here"] (defScope s__law_value) := C8.fnScope_by (by decide +kernel)
theorem o__law_value {fd : FuncData} (hd : HdOk fa fn tq exs K mg base) (Fu : FunD K "_law_value" "_law_value" (defArgs s__law_value) (defBody s__law_value) (defScope s__law_value) [] [] (He.ga K "_law_value") fd) : FnOk P w K mg base (L2.CX P w) 4 (He.ga K "_law_value") fd ["_law_cup_here"] (spM (gxOf tq K mg) 1 f__law_value) :=
  fnD (N := ["_law_cup_here", "_law_number"]) (k := 3) (m := m__law_value) rfl Fu sc__law_value fun cdv A outer s H E F hc eG hr ft => by
    obtain ⟨G', Φ0, H0, Pl, rw⟩ := F; cases eG
    exact (bl_cons (sm_set 1 ft.nd (em_callL ft (hr.mono (by decide)) (d__law_integer hd) (lm_cons (em_var 0) lm_nil))) (bl_one (sm_ret (em_callL ft (hr.mono (by decide)) (d__law_pick hd) (lm_cons (em_var 0) (lm_cons (em_lst (lm_cons em_non (lm_cons em_bl (lm_cons em_bl (lm_cons (x_str (hd.free 41) (lm_cons (em_var 1) lm_nil)) (lm_cons em_str (lm_cons (em_lst (lm_cons (em_var 1) lm_nil)) (lm_cons (em_tup (lm_cons (em_var 1) lm_nil)) (lm_cons em_dic (lm_cons (em_dicV (j := 1)) (lm_cons (em_lst (lm_cons (em_var 1) (lm_cons em_bl lm_nil))) (lm_cons (em_tup (lm_cons em_non lm_nil)) (lm_cons (em_lst (lm_cons (em_lst (lm_cons (em_var 1) lm_nil)) lm_nil)) lm_nil))))))))))))) lm_nil))))))
theorem d__law_value (hd : HdOk fa fn tq exs K mg base) : DefOk P w K mg base (gxOf tq K mg) 4 "_law_value" 1 f__law_value := by
  obtain ⟨fd, Fu⟩ := hd.df 16 (d := df16)
  exact ⟨⟨_, fd, _, o__law_value hd Fu, hd.glo 21, Fu.kp, FunD.bindsN (ps := ["_law_cup_here"]) Fu (fun _ _ _ _ _ _ us hl => match us, hl with | [_], _ => rfl)⟩, proper_run, arity_run⟩
theorem sc_is_within : FnScope ["value", "least", "most"] ["value", "least", "most"] (defScope s_is_within) := C8.fnScope_by (by decide +kernel)
theorem o_is_within {fd : FuncData} (hd : HdOk fa fn tq exs K mg base) (Fu : FunD K "is_within" "is_within" (defArgs s_is_within) (defBody s_is_within) (defScope s_is_within) [] [] (He.ga K "is_within") fd) : FnOk P w K mg base (L2.CX P w) 2 (He.ga K "is_within") fd ["value", "least", "most"] (spM (gxOf tq K mg) 3 f_is_within) :=
  fnD (N := ["value", "least", "most"]) (k := 1) (m := m_is_within) rfl Fu sc_is_within fun cdv A outer s H E F hc eG hr ft => by
    obtain ⟨G', Φ0, H0, Pl, rw⟩ := F; cases eG
    exact (bl_cons (sm_if (bm_not (bm_val (em_callV ft (hr.mono (by decide)) (d_is_integer hd) (lm_cons (em_var 0) lm_nil)))) (bl_one (sm_ret em_bl)) bl_nil) (bl_one (sm_ret (em_and (em_or (x_is (em_var 1) em_non) (em_one (x_le (em_var 1) (em_var 0)))) (em_one (em_or (x_is (em_var 2) em_non) (em_one (x_le (em_var 0) (em_var 2)))))))))
theorem d_is_within (hd : HdOk fa fn tq exs K mg base) : DefOk P w K mg base (gxOf tq K mg) 2 "is_within" 3 f_is_within := by
  obtain ⟨fd, Fu⟩ := hd.df 17 (d := df17)
  exact ⟨⟨_, fd, _, o_is_within hd Fu, hd.glo 3, Fu.kp, FunD.bindsN (ps := ["value", "least", "most"]) Fu (fun _ _ _ _ _ _ us hl => match us, hl with | [_, _, _], _ => rfl)⟩, proper_run, arity_run⟩
theorem kw_is_within_210 (hd : HdOk fa fn tq exs K mg base) : KwOk P w K mg base (gxOf tq K mg) 2 "is_within" 3 ["most", "least", "value"] [2, 1, 0] f_is_within := by
  obtain ⟨fd, Fu⟩ := hd.df 17 (d := df17)
  exact kwOk (d_is_within hd) Fu (hd.glo 3) rfl (fun _ _ _ _ _ _ us hl => match us, hl with | [_, _, _], _ => rfl) (o_is_within hd Fu)
theorem sc__law_integers_right : FnScope ["_law_cup_here", "_law_number", "_law_odd", "_law_low", "_law_high", "_law_least", "_law_most", "_law_due", "_law_row", "_law_turn", "_law_at"] ["_law_cup_here"] (defScope s__law_integers_right) := C8.fnScope_by (by decide +kernel)
theorem o__law_integers_right {fd : FuncData} (hd : HdOk fa fn tq exs K mg base) (Fu : FunD K "_law_integers_right" "_law_integers_right" (defArgs s__law_integers_right) (defBody s__law_integers_right) (defScope s__law_integers_right) [] [] (He.ga K "_law_integers_right") fd) : FnOk P w K mg base (L2.CX P w) 5 (He.ga K "_law_integers_right") fd ["_law_cup_here"] (spM (gxOf tq K mg) 1 f__law_integers_right) :=
  fnD (N := ["_law_cup_here", "_law_number", "_law_odd", "_law_low", "_law_high", "_law_least", "_law_most", "_law_due", "_law_row", "_law_turn", "_law_at"]) (k := 4) (m := m__law_integers_right) rfl Fu sc__law_integers_right fun cdv A outer s H E F hc eG hr ft => by
    obtain ⟨G', Φ0, H0, Pl, rw⟩ := F; cases eG
    exact (bl_cons (sm_par 1 2 ft.calm ft.nd (lm_cons (em_callL ft (hr.mono (by decide)) (d__law_integer hd) (lm_cons (em_var 0) lm_nil)) (lm_cons (em_callL ft (hr.mono (by decide)) (d__law_value hd) (lm_cons (em_var 0) lm_nil)) lm_nil))) (bl_cons (sm_if (wm_or (bm_not (bm_val (em_callV ft (hr.mono (by decide)) (d__law_same hd) (lm_cons (em_callK (ks := ["value"]) (ix := [0]) ft (hr.mono (by decide)) (kw_is_integer_0 hd) (km_cons (em_var 1) km_nil)) (lm_cons em_bl lm_nil))))) (wm_or (bm_not (bm_val (em_callV ft (hr.mono (by decide)) (d__law_same hd) (lm_cons (em_callV ft (hr.mono (by decide)) (d_is_integer hd) (lm_cons (em_var 2) lm_nil)) (lm_cons em_bl lm_nil))))) (wm_or1 (bm_not (bm_val (em_callV ft (hr.mono (by decide)) (d__law_same hd) (lm_cons (em_callV ft (hr.mono (by decide)) (d_is_within hd) (lm_cons (em_var 2) (lm_cons em_non (lm_cons em_non lm_nil)))) (lm_cons em_bl lm_nil)))))))).pt (bl_one (sm_ret em_bl)) bl_nil) (bl_cons (sm_par 3 4 ft.calm ft.nd (lm_cons (x_sub (x_add ft (em_var 1) (em_callL ft (hr.mono (by decide)) (d__law_dip hd) (lm_cons (em_var 0) (lm_cons em_int lm_nil)))) em_int) (lm_cons (x_sub (x_add ft (em_var 1) (em_callL ft (hr.mono (by decide)) (d__law_dip hd) (lm_cons (em_var 0) (lm_cons em_int lm_nil)))) em_int) lm_nil))) (bl_cons (sm_for ft (im_seq ft (em_tup (lm_cons (em_tup (lm_cons (em_var 3) (lm_cons (em_var 4) lm_nil))) (lm_cons (em_tup (lm_cons em_non (lm_cons (em_var 4) lm_nil))) (lm_cons (em_tup (lm_cons (em_var 3) (lm_cons em_non lm_nil))) (lm_cons (em_tup (lm_cons em_non (lm_cons em_non lm_nil))) lm_nil)))))) (gm_tup 2 ft.K ft.calm (gsm_cons (gm_name 5 ft.nd) (gsm_cons (gm_name 6 ft.nd) gsm_nil))) (bl_cons (sm_set 7 ft.nd (em_and (em_or (x_is (em_var 5) em_non) (em_one (x_le (em_var 5) (em_var 1)))) (em_one (em_or (x_is (em_var 6) em_non) (em_one (x_le (em_var 1) (em_var 6))))))) (bl_one (sm_if (wm_or (bm_not (bm_val (em_callV ft (hr.mono (by decide)) (d__law_same hd) (lm_cons (em_callV ft (hr.mono (by decide)) (d_is_within hd) (lm_cons (em_var 1) (lm_cons (em_var 5) (lm_cons (em_var 6) lm_nil)))) (lm_cons (em_var 7) lm_nil))))) (wm_or1 (bm_not (bm_val (em_callV ft (hr.mono (by decide)) (d__law_same hd) (lm_cons (em_callK (ks := ["most", "least", "value"]) (ix := [2, 1, 0]) ft (hr.mono (by decide)) (kw_is_within_210 hd) (km_cons (em_var 6) (km_cons (em_var 5) (km_cons (em_var 1) km_nil)))) (lm_cons (em_var 7) lm_nil))))))).pt (bl_one (sm_ret em_bl)) bl_nil)))) (bl_cons (sm_setComp 8 [("_law_turn", 9)] ft (im_range1 (hd.free 32) (lm_cons (em_callL ft (hr.mono (by decide)) (d__law_dip hd) (lm_cons (em_var 0) (lm_cons em_int lm_nil))) lm_nil)) (fun s H C cl fp ft => (gm_name 9 ft.nd)) (fun s H C cl fp ft => pts_yes) (fun s H C cl fp ft => (em_callL ft (hr.mono (by decide)) (d__law_integer hd) (lm_cons (em_var 0) lm_nil)))) (bl_cons (sm_set 10 ft.nd (em_callL ft (hr.mono (by decide)) (d__law_dip hd) (lm_cons (em_var 0) (lm_cons (x_add ft (x_len ft (hd.free 38) (lm_cons (em_var 8) lm_nil)) em_int) lm_nil)))) (bl_cons (sm_if (wm_or (bm_not (bm_val (em_callV ft (hr.mono (by decide)) (d__law_same hd) (lm_cons (em_callV ft (hr.mono (by decide)) (d_are_integers hd) (lm_cons (em_var 8) lm_nil)) (lm_cons em_bl lm_nil))))) (wm_or1 (bm_not (bm_val (em_callV ft (hr.mono (by decide)) (d__law_same hd) (lm_cons (em_callK (ks := ["value"]) (ix := [0]) ft (hr.mono (by decide)) (kw_are_integers_0 hd) (km_cons (x_tuple ft (hd.free 35) (lm_cons (em_var 8) lm_nil)) km_nil)) (lm_cons em_bl lm_nil))))))).pt (bl_one (sm_ret em_bl)) bl_nil) (bl_one (sm_ret (em_and (em_callV ft (hr.mono (by decide)) (d__law_same hd) (lm_cons (em_callV ft (hr.mono (by decide)) (d_are_integers hd) (lm_cons (x_add ft (x_add ft (em_sl ft.K (em_var 8) om_none (om_some (em_var 10))) (em_lst (lm_cons (em_var 2) lm_nil))) (em_sl ft.K (em_var 8) (om_some (em_var 10)) om_none)) lm_nil)) (lm_cons em_bl lm_nil))) (em_and (em_callV ft (hr.mono (by decide)) (d__law_same hd) (lm_cons (em_callV ft (hr.mono (by decide)) (d_are_integers hd) (lm_cons em_dic1 lm_nil)) (lm_cons em_bl lm_nil))) (em_one (em_callV ft (hr.mono (by decide)) (d__law_same hd) (lm_cons (em_callV ft (hr.mono (by decide)) (d_are_integers hd) (lm_cons em_str lm_nil)) (lm_cons em_bl lm_nil)))))))))))))))
theorem d__law_integers_right (hd : HdOk fa fn tq exs K mg base) : DefOk P w K mg base (gxOf tq K mg) 5 "_law_integers_right" 1 f__law_integers_right := by
  obtain ⟨fd, Fu⟩ := hd.df 18 (d := df18)
  exact ⟨⟨_, fd, _, o__law_integers_right hd Fu, hd.glo 23, Fu.kp, FunD.bindsN (ps := ["_law_cup_here"]) Fu (fun _ _ _ _ _ _ us hl => match us, hl with | [_], _ => rfl)⟩, proper_run, arity_run⟩
theorem sc_is_name : FnScope ["value", "sign"] ["value"] (defScope s_is_name) := C8.fnScope_by (by decide +kernel)
theorem o_is_name {fd : FuncData} (hd : HdOk fa fn tq exs K mg base) (Fu : FunD K "is_name" "is_name" (defArgs s_is_name) (defBody s_is_name) (defScope s_is_name) [] [] (He.ga K "is_name") fd) : FnOk P w K mg base (L2.CX P w) 1 (He.ga K "is_name") fd ["value"] (spM (gxOf tq K mg) 1 f_is_name) :=
  fnD (N := ["value", "sign"]) (k := 0) (m := m_is_name) rfl Fu sc_is_name fun cdv A outer s H E F hc eG hr ft => by
    obtain ⟨G', Φ0, H0, Pl, rw⟩ := F; cases eG
    exact (bl_cons (sm_if (wm_or (bm_not (bm_val (x_isi ft (isOk hd (hd.ex 1)) (hd.free 36) (lm_cons (em_var 0) (lm_cons (em_gty (hd.free 41)) lm_nil))))) (wm_or1 (bm_not (bm_chain op_lt op_le o_cmp o_cmp em_int (x_len ft (hd.free 38) (lm_cons (em_var 0) lm_nil)) (em_gint hd (hd.ex 5)))))).pt (bl_one (sm_ret em_bl)) bl_nil) (bl_one (sm_ret (em_and (x_inC (x_ix ft (em_var 0) em_int) (em_gstr hd (hd.ex 6))) (em_one (x_all ft (hd.free 44) (lm_cons (em_comp [("sign", 1)] ft (im_any ft (em_var 0)) (fun s H C cl fp ft => (gm_name 1 ft.nd)) (fun s H C cl fp ft => pts_yes) (fun s H C cl fp ft => (x_inC (em_var 1) (x_add ft (em_gstr hd (hd.ex 6)) (em_gstr hd (hd.ex 7)))))) lm_nil)))))))
theorem d_is_name (hd : HdOk fa fn tq exs K mg base) : DefOk P w K mg base (gxOf tq K mg) 1 "is_name" 1 f_is_name := by
  obtain ⟨fd, Fu⟩ := hd.df 19 (d := df19)
  exact ⟨⟨_, fd, _, o_is_name hd Fu, hd.glo 4, Fu.kp, FunD.bindsN (ps := ["value"]) Fu (fun _ _ _ _ _ _ us hl => match us, hl with | [_], _ => rfl)⟩, proper_run, arity_run⟩
theorem kw_is_name_0 (hd : HdOk fa fn tq exs K mg base) : KwOk P w K mg base (gxOf tq K mg) 1 "is_name" 1 ["value"] [0] f_is_name := by
  obtain ⟨fd, Fu⟩ := hd.df 19 (d := df19)
  exact kwOk (d_is_name hd) Fu (hd.glo 4) rfl (fun _ _ _ _ _ _ us hl => match us, hl with | [_], _ => rfl) (o_is_name hd Fu)
theorem sc__law_names_right : FnScope ["_law_cup_here", "_law_letters", "_law_signs", "_law_name", "_law_turn", "_law_at", "_law_odd"] ["_law_cup_here"] (defScope s__law_names_right) := C8.fnScope_by (by decide +kernel)
theorem o__law_names_right {fd : FuncData} (hd : HdOk fa fn tq exs K mg base) (Fu : FunD K "_law_names_right" "_law_names_right" (defArgs s__law_names_right) (defBody s__law_names_right) (defScope s__law_names_right) [] [] (He.ga K "_law_names_right") fd) : FnOk P w K mg base (L2.CX P w) 5 (He.ga K "_law_names_right") fd ["_law_cup_here"] (spM (gxOf tq K mg) 1 f__law_names_right) :=
  fnD (N := ["_law_cup_here", "_law_letters", "_law_signs", "_law_name", "_law_turn", "_law_at", "_law_odd"]) (k := 4) (m := m__law_names_right) rfl Fu sc__law_names_right fun cdv A outer s H E F hc eG hr ft => by
    obtain ⟨G', Φ0, H0, Pl, rw⟩ := F; cases eG
    exact (bl_cons (sm_asg (em_tup (lm_cons em_str (lm_cons em_str lm_nil))) (gm_tup 2 ft.K ft.calm (gsm_cons (gm_name 1 ft.nd) (gsm_cons (gm_name 2 ft.nd) gsm_nil)))) (bl_cons (sm_set 3 ft.nd (em_callL ft (hr.mono (by decide)) (d__law_pick hd) (lm_cons (em_var 0) (lm_cons (x_listS ft (hd.free 39) (lm_cons (em_var 1) lm_nil)) lm_nil)))) (bl_cons (sm_for ft (im_range1 (hd.free 32) (lm_cons (em_callL ft (hr.mono (by decide)) (d__law_dip hd) (lm_cons (em_var 0) (lm_cons em_int lm_nil))) lm_nil)) (gm_name 4 ft.nd) (bl_one (sm_set 3 ft.nd (x_add ft (em_var 3) (em_callL ft (hr.mono (by decide)) (d__law_pick hd) (lm_cons (em_var 0) (lm_cons (x_listS ft (hd.free 39) (lm_cons (em_var 2) lm_nil)) lm_nil))))))) (bl_cons (sm_par 5 6 ft.calm ft.nd (lm_cons (em_callL ft (hr.mono (by decide)) (d__law_dip hd) (lm_cons (em_var 0) (lm_cons (x_add ft (x_len ft (hd.free 38) (lm_cons (em_var 3) lm_nil)) em_int) lm_nil))) (lm_cons (em_callL ft (hr.mono (by decide)) (d__law_pick hd) (lm_cons (em_var 0) (lm_cons (em_lst (lm_cons em_str (lm_cons em_str (lm_cons em_str (lm_cons em_str (lm_cons em_str (lm_cons em_str (lm_cons em_str (lm_cons em_str (lm_cons em_str (lm_cons em_str (lm_cons em_str lm_nil)))))))))))) lm_nil))) lm_nil))) (bl_cons (sm_if (wm_or (bm_not (bm_val (em_callV ft (hr.mono (by decide)) (d__law_same hd) (lm_cons (em_callK (ks := ["value"]) (ix := [0]) ft (hr.mono (by decide)) (kw_is_name_0 hd) (km_cons (em_var 3) km_nil)) (lm_cons em_bl lm_nil))))) (wm_or1 (bm_not (bm_val (em_callV ft (hr.mono (by decide)) (d__law_same hd) (lm_cons (em_callV ft (hr.mono (by decide)) (d_is_name hd) (lm_cons (x_add ft (x_add ft (em_slT (em_var 3) om_none (om_some (em_var 5))) (em_var 6)) (em_slT (em_var 3) (om_some (em_var 5)) om_none)) lm_nil)) (lm_cons em_bl lm_nil))))))).pt (bl_one (sm_ret em_bl)) bl_nil) (bl_cons (sm_if (wm_or (bm_not (bm_val (em_callV ft (hr.mono (by decide)) (d__law_same hd) (lm_cons (em_callV ft (hr.mono (by decide)) (d_is_name hd) (lm_cons (x_add ft em_str (em_slT (em_var 3) om_none (om_some em_int))) lm_nil)) (lm_cons em_bl lm_nil))))) (wm_or1 (bm_not (bm_val (em_callV ft (hr.mono (by decide)) (d__law_same hd) (lm_cons (em_callV ft (hr.mono (by decide)) (d_is_name hd) (lm_cons (x_add ft (em_var 3) (x_mulS em_str (x_sub em_int (x_len ft (hd.free 38) (lm_cons (em_var 3) lm_nil))))) lm_nil)) (lm_cons em_bl lm_nil))))))).pt (bl_one (sm_ret em_bl)) bl_nil) (bl_one (sm_ret (em_and (em_callV ft (hr.mono (by decide)) (d__law_same hd) (lm_cons (em_callV ft (hr.mono (by decide)) (d_is_name hd) (lm_cons (x_add ft (em_var 3) (x_mulS em_str (x_sub em_int (x_len ft (hd.free 38) (lm_cons (em_var 3) lm_nil))))) lm_nil)) (lm_cons em_bl lm_nil))) (em_and (em_not (em_callV ft (hr.mono (by decide)) (d_is_name hd) (lm_cons em_str lm_nil))) (em_one (em_not (em_callV ft (hr.mono (by decide)) (d_is_name hd) (lm_cons (em_callL ft (hr.mono (by decide)) (d__law_value hd) (lm_cons (em_var 0) lm_nil)) lm_nil))))))))))))))
theorem d__law_names_right (hd : HdOk fa fn tq exs K mg base) : DefOk P w K mg base (gxOf tq K mg) 5 "_law_names_right" 1 f__law_names_right := by
  obtain ⟨fd, Fu⟩ := hd.df 20 (d := df20)
  exact ⟨⟨_, fd, _, o__law_names_right hd Fu, hd.glo 24, Fu.kp, FunD.bindsN (ps := ["_law_cup_here"]) Fu (fun _ _ _ _ _ _ us hl => match us, hl with | [_], _ => rfl)⟩, proper_run, arity_run⟩
theorem sc__law_part : FnScope ["_law_ask", "_law_caught", "error"] ["_law_ask"] (defScope s__law_part) := C8.fnScope_by (by decide +kernel)
theorem gv__law_part {k : Nat} (hd : HdOk fa fn tq exs K mg base) : GivOk P w K mg base (gxOf tq K mg) k "_law_part" g__law_part := by
  obtain ⟨fd, Fu⟩ := hd.df 21 (d := df21)
  exact givOk (N := ["_law_ask", "_law_caught", "error"]) (a := "_law_ask") (mt := m__law_part) rfl Fu (hd.glo 30) sc__law_part (by decide) (by decide) (fun _ _ _ _ _ _ us hl => match us, hl with | [_], _ => rfl) (fun cdv A outer s H E F o eG hr act ft => by
    obtain ⟨G', Φ0, H0, Pl, rw⟩ := F; cases eG
    exact (bl_cons (sm_set 1 ft.nd em_non) (bl_cons (sm_try 2 ft rfl rfl rfl ⟨rfl, by decide, .inl (hd.cat (hd.ex 3))⟩ (catOk hd (hd.ex 3)) (fun W pn xe ft => (bl_one (sm_expr (act _ _ _ _ _ ft)))) (fun a pn => (bl_one (sm_set 1 ft.nd (em_var 2))))) (bl_one (sm_ret (em_if (t_is (em_var 1) em_non) em_non (em_if (bm_val (x_isi ft (isOk hd (hd.ex 1)) (hd.free 36) (lm_cons (em_var 1) (lm_cons (em_gcls globOk (hd.glo 1)) lm_nil)))) (em_fld (fldOk hd (hd.ex 2)) (em_var 1)) em_bl)))))))
theorem sc_in_lowest : FnScope ["number", "by", "shared"] ["number", "by"] (defScope s_in_lowest) := C8.fnScope_by (by decide +kernel)
theorem o_in_lowest {fd : FuncData} (hd : HdOk fa fn tq exs K mg base) (Fu : FunD K "in_lowest" "in_lowest" (defArgs s_in_lowest) (defBody s_in_lowest) (defScope s_in_lowest) [] [] (He.ga K "in_lowest") fd) : FnOk P w K mg base (L2.CX P w) 2 (He.ga K "in_lowest") fd ["number", "by"] (spM (gxOf tq K mg) 2 f_in_lowest) :=
  fnD (N := ["number", "by", "shared"]) (k := 1) (m := m_in_lowest) rfl Fu sc_in_lowest fun cdv A outer s H E F hc eG hr ft => by
    obtain ⟨G', Φ0, H0, Pl, rw⟩ := F; cases eG
    exact (bl_cons (sm_set 2 ft.nd (em_if (t_gt (em_var 1) em_int) (em_callV ft (hr.mono (by decide)) (d_measure hd) (lm_cons (em_lst (lm_cons (em_var 0) (lm_cons (em_var 1) lm_nil))) lm_nil)) (x_neg (em_callV ft (hr.mono (by decide)) (d_measure hd) (lm_cons (em_lst (lm_cons (em_var 0) (lm_cons (em_var 1) lm_nil))) lm_nil))))) (bl_one (sm_ret (em_tup (lm_cons (x_div (em_var 0) (em_var 2)) (lm_cons (x_div (em_var 1) (em_var 2)) lm_nil))))))
theorem d_in_lowest (hd : HdOk fa fn tq exs K mg base) : DefOk P w K mg base (gxOf tq K mg) 2 "in_lowest" 2 f_in_lowest := by
  obtain ⟨fd, Fu⟩ := hd.df 22 (d := df22)
  exact ⟨⟨_, fd, _, o_in_lowest hd Fu, hd.glo 16, Fu.kp, FunD.bindsN (ps := ["number", "by"]) Fu (fun _ _ _ _ _ _ us hl => match us, hl with | [_, _], _ => rfl)⟩, proper_run, arity_run⟩
theorem sc_need_number : FnScope ["value", "part", "least", "most"] ["value", "part", "least", "most"] (defScope s_need_number) := C8.fnScope_by (by decide +kernel)
theorem o_need_number {fd : FuncData} (hd : HdOk fa fn tq exs K mg base) (Fu : FunD K "need_number" "need_number" (defArgs s_need_number) (defBody s_need_number) (defScope s_need_number) [] [] (He.ga K "need_number") fd) : FnOk P w K mg base (L2.CX P w) 3 (He.ga K "need_number") fd ["value", "part", "least", "most"] (spM (gxOf tq K mg) 4 f_need_number) :=
  fnD (N := ["value", "part", "least", "most"]) (k := 2) (m := m_need_number) rfl Fu sc_need_number fun cdv A outer s H E F hc eG hr ft => by
    obtain ⟨G', Φ0, H0, Pl, rw⟩ := F; cases eG
    exact (bl_one (sm_if (bm_not (bm_val (em_callV ft (hr.mono (by decide)) (d_is_within hd) (lm_cons (em_var 0) (lm_cons (em_var 2) (lm_cons (em_var 3) lm_nil)))))) (bl_one (sm_raise ft (hr.mono (by decide)) (xo_BadNumber hd) (lm_cons (em_var 1) lm_nil))) bl_nil))
theorem d_need_number (hd : HdOk fa fn tq exs K mg base) : DefOk P w K mg base (gxOf tq K mg) 3 "need_number" 4 f_need_number := by
  obtain ⟨fd, Fu⟩ := hd.df 23 (d := df23)
  exact ⟨⟨_, fd, _, o_need_number hd Fu, hd.glo 9, Fu.kp, FunD.bindsN (ps := ["value", "part", "least", "most"]) Fu (fun _ _ _ _ _ _ us hl => match us, hl with | [_, _, _, _], _ => rfl)⟩, proper_run, arity_run⟩
theorem sc_lowest : FnScope ["number", "by"] ["number", "by"] (defScope s_lowest) := C8.fnScope_by (by decide +kernel)
theorem o_lowest {fd : FuncData} (hd : HdOk fa fn tq exs K mg base) (Fu : FunD K "lowest" "lowest" (defArgs s_lowest) (defBody s_lowest) (defScope s_lowest) [] [] (He.ga K "lowest") fd) : FnOk P w K mg base (L2.CX P w) 4 (He.ga K "lowest") fd ["number", "by"] (spM (gxOf tq K mg) 2 f_lowest) :=
  fnD (N := ["number", "by"]) (k := 3) (m := m_lowest) rfl Fu sc_lowest fun cdv A outer s H E F hc eG hr ft => by
    obtain ⟨G', Φ0, H0, Pl, rw⟩ := F; cases eG
    exact (bl_cons (sm_expr (em_callV ft (hr.mono (by decide)) (d_need_number hd) (lm_cons (em_var 0) (lm_cons em_str (lm_cons em_non (lm_cons em_non lm_nil)))))) (bl_cons (sm_expr (em_callV ft (hr.mono (by decide)) (d_need_number hd) (lm_cons (em_var 1) (lm_cons em_str (lm_cons em_non (lm_cons em_non lm_nil)))))) (bl_cons (sm_if (t_eq ft (unitsOk hr) (em_var 1) em_int) (bl_one (sm_raise ft (hr.mono (by decide)) (xo_BadNumber hd) (lm_cons em_str lm_nil))) bl_nil) (bl_one (sm_ret (em_callV ft (hr.mono (by decide)) (d_in_lowest hd) (lm_cons (em_var 0) (lm_cons (em_var 1) lm_nil))))))))
theorem d_lowest (hd : HdOk fa fn tq exs K mg base) : DefOk P w K mg base (gxOf tq K mg) 4 "lowest" 2 f_lowest := by
  obtain ⟨fd, Fu⟩ := hd.df 24 (d := df24)
  exact ⟨⟨_, fd, _, o_lowest hd Fu, hd.glo 15, Fu.kp, FunD.bindsN (ps := ["number", "by"]) Fu (fun _ _ _ _ _ _ us hl => match us, hl with | [_, _], _ => rfl)⟩, proper_run, arity_run⟩
theorem kw_lowest_01 (hd : HdOk fa fn tq exs K mg base) : KwOk P w K mg base (gxOf tq K mg) 4 "lowest" 2 ["number", "by"] [0, 1] f_lowest := by
  obtain ⟨fd, Fu⟩ := hd.df 24 (d := df24)
  exact kwOk (d_lowest hd) Fu (hd.glo 15) rfl (fun _ _ _ _ _ _ us hl => match us, hl with | [_, _], _ => rfl) (o_lowest hd Fu)
theorem sc_is_ratio : FnScope ["value"] ["value"] (defScope s_is_ratio) := C8.fnScope_by (by decide +kernel)
theorem o_is_ratio {fd : FuncData} (hd : HdOk fa fn tq exs K mg base) (Fu : FunD K "is_ratio" "is_ratio" (defArgs s_is_ratio) (defBody s_is_ratio) (defScope s_is_ratio) [] [] (He.ga K "is_ratio") fd) : FnOk P w K mg base (L2.CX P w) 3 (He.ga K "is_ratio") fd ["value"] (spM (gxOf tq K mg) 1 f_is_ratio) :=
  fnD (N := ["value"]) (k := 2) (m := m_is_ratio) rfl Fu sc_is_ratio fun cdv A outer s H E F hc eG hr ft => by
    obtain ⟨G', Φ0, H0, Pl, rw⟩ := F; cases eG
    exact (bl_cons (sm_if (wm_or (bm_not (bm_val (em_callV ft (hr.mono (by decide)) (d_are_integers hd) (lm_cons (em_var 0) lm_nil)))) (wm_or1 (t_ne ft (unitsOk hr) (x_len ft (hd.free 38) (lm_cons (em_var 0) lm_nil)) em_int))).pt (bl_one (sm_ret em_bl)) bl_nil) (bl_one (sm_ret (em_and (x_gt (x_ix ft (em_var 0) em_int) em_int) (em_one (x_eq ft (unitsOk hr) (em_callV ft (hr.mono (by decide)) (d_measure hd) (lm_cons (em_var 0) lm_nil)) em_int))))))
theorem d_is_ratio (hd : HdOk fa fn tq exs K mg base) : DefOk P w K mg base (gxOf tq K mg) 3 "is_ratio" 1 f_is_ratio := by
  obtain ⟨fd, Fu⟩ := hd.df 25 (d := df25)
  exact ⟨⟨_, fd, _, o_is_ratio hd Fu, hd.glo 6, Fu.kp, FunD.bindsN (ps := ["value"]) Fu (fun _ _ _ _ _ _ us hl => match us, hl with | [_], _ => rfl)⟩, proper_run, arity_run⟩
theorem kw_is_ratio_0 (hd : HdOk fa fn tq exs K mg base) : KwOk P w K mg base (gxOf tq K mg) 3 "is_ratio" 1 ["value"] [0] f_is_ratio := by
  obtain ⟨fd, Fu⟩ := hd.df 25 (d := df25)
  exact kwOk (d_is_ratio hd) Fu (hd.glo 6) rfl (fun _ _ _ _ _ _ us hl => match us, hl with | [_], _ => rfl) (o_is_ratio hd Fu)
theorem sc__law_ratios_right : FnScope ["_law_cup_here", "_law_shared", "_law_one", "_law_other", "_law_due", "_law_told", "_law_odd"] ["_law_cup_here"] (defScope s__law_ratios_right) := C8.fnScope_by (by decide +kernel)
theorem o__law_ratios_right {fd : FuncData} (hd : HdOk fa fn tq exs K mg base) (Fu : FunD K "_law_ratios_right" "_law_ratios_right" (defArgs s__law_ratios_right) (defBody s__law_ratios_right) (defScope s__law_ratios_right) [] [] (He.ga K "_law_ratios_right") fd) : FnOk P w K mg base (L2.CX P w) 5 (He.ga K "_law_ratios_right") fd ["_law_cup_here"] (spM (gxOf tq K mg) 1 f__law_ratios_right) :=
  fnD (N := ["_law_cup_here", "_law_shared", "_law_one", "_law_other", "_law_due", "_law_told", "_law_odd"]) (k := 4) (m := m__law_ratios_right) rfl Fu sc__law_ratios_right fun cdv A outer s H E F hc eG hr ft => by
    obtain ⟨G', Φ0, H0, Pl, rw⟩ := F; cases eG
    exact (bl_cons (sm_par3 1 2 3 ft.calm ft.nd (lm_cons (em_callL ft (hr.mono (by decide)) (d__law_dip hd) (lm_cons (em_var 0) (lm_cons em_int lm_nil))) (lm_cons (x_sub (em_callL ft (hr.mono (by decide)) (d__law_dip hd) (lm_cons (em_var 0) (lm_cons em_int lm_nil))) em_int) (lm_cons (x_sub (em_callL ft (hr.mono (by decide)) (d__law_dip hd) (lm_cons (em_var 0) (lm_cons em_int lm_nil))) em_int) lm_nil)))) (bl_cons (sm_par 2 3 ft.calm ft.nd (lm_cons (x_mul (em_var 2) (em_var 1)) (lm_cons (x_mul (em_var 3) (em_var 1)) lm_nil))) (bl_cons (sm_set 4 ft.nd (em_and (x_gt (em_var 3) em_int) (em_one (x_eq ft (unitsOk hr) (em_callV ft (hr.mono (by decide)) (d__law_measure hd) (lm_cons (em_lst (lm_cons (em_var 2) (lm_cons (em_var 3) lm_nil))) lm_nil)) em_int)))) (bl_cons (sm_if (wm_or (bm_not (bm_val (em_callV ft (hr.mono (by decide)) (d__law_same hd) (lm_cons (em_callV ft (hr.mono (by decide)) (d_is_ratio hd) (lm_cons (em_tup (lm_cons (em_var 2) (lm_cons (em_var 3) lm_nil))) lm_nil)) (lm_cons (em_var 4) lm_nil))))) (wm_or1 (bm_not (bm_val (em_callV ft (hr.mono (by decide)) (d__law_same hd) (lm_cons (em_callK (ks := ["value"]) (ix := [0]) ft (hr.mono (by decide)) (kw_is_ratio_0 hd) (km_cons (em_lst (lm_cons (em_var 2) (lm_cons (em_var 3) lm_nil))) km_nil)) (lm_cons (em_var 4) lm_nil))))))).pt (bl_one (sm_ret em_bl)) bl_nil) (bl_cons (sm_if (t_ne ft (unitsOk hr) (em_var 3) em_int) (bl_cons (sm_set 5 ft.nd (em_callK (ks := ["number", "by"]) (ix := [0, 1]) ft (hr.mono (by decide)) (kw_lowest_01 hd) (km_cons (em_var 2) (km_cons (em_var 3) km_nil)))) (bl_one (sm_if (wm_or (bm_not (bm_val (x_isi ft (isOk hd (hd.ex 1)) (hd.free 36) (lm_cons (em_var 5) (lm_cons (em_gty (hd.free 35)) lm_nil))))) (wm_or (bm_not (bm_val (em_callV ft (hr.mono (by decide)) (d_is_ratio hd) (lm_cons (em_var 5) lm_nil)))) (wm_or1 (t_ne ft (unitsOk hr) (x_mul (x_ix ft (em_var 5) em_int) (em_var 3)) (x_mul (x_ix ft (em_var 5) em_int) (em_var 2)))))).pt (bl_one (sm_ret em_bl)) bl_nil))) bl_nil) (bl_cons (sm_set 6 ft.nd (em_callL ft (hr.mono (by decide)) (d__law_pick hd) (lm_cons (em_var 0) (lm_cons (em_lst (lm_cons (em_tup (lm_cons em_int (lm_cons em_bl lm_nil))) (lm_cons (em_tup (lm_cons em_bl (lm_cons em_int lm_nil))) (lm_cons (em_tup (lm_cons em_int lm_nil)) (lm_cons (em_tup (lm_cons em_int (lm_cons em_int (lm_cons em_int lm_nil)))) (lm_cons em_str (lm_cons em_non (lm_cons (em_tup (lm_cons em_int (lm_cons em_int lm_nil))) (lm_cons (em_tup (lm_cons em_int (lm_cons em_int lm_nil))) (lm_cons (em_tup (lm_cons em_int (lm_cons (x_neg em_int) lm_nil))) (lm_cons em_dic1 (lm_cons (em_tup (lm_cons em_int (lm_cons em_non lm_nil))) (lm_cons (em_tup lm_nil) lm_nil))))))))))))) lm_nil)))) (bl_one (sm_ret (em_and (em_callV ft (hr.mono (by decide)) (d__law_same hd) (lm_cons (em_callV ft (hr.mono (by decide)) (d_is_ratio hd) (lm_cons (em_var 6) lm_nil)) (lm_cons em_bl lm_nil))) (em_and (em_callV ft (hr.mono (by decide)) (d_is_ratio hd) (lm_cons (em_tup (lm_cons em_int (lm_cons em_int lm_nil))) lm_nil)) (em_one (em_callV ft (hr.mono (by decide)) (d_is_ratio hd) (lm_cons (em_tup (lm_cons (x_neg em_int) (lm_cons (x_pow em_int em_int) lm_nil))) lm_nil)))))))))))))
theorem d__law_ratios_right (hd : HdOk fa fn tq exs K mg base) : DefOk P w K mg base (gxOf tq K mg) 5 "_law_ratios_right" 1 f__law_ratios_right := by
  obtain ⟨fd, Fu⟩ := hd.df 26 (d := df26)
  exact ⟨⟨_, fd, _, o__law_ratios_right hd Fu, hd.glo 28, Fu.kp, FunD.bindsN (ps := ["_law_cup_here"]) Fu (fun _ _ _ _ _ _ us hl => match us, hl with | [_], _ => rfl)⟩, proper_run, arity_run⟩
theorem sc_first_twice : FnScope ["values", "known", "each"] ["values"] (defScope s_first_twice) := C8.fnScope_by (by decide +kernel)
theorem o_first_twice {fd : FuncData} (hd : HdOk fa fn tq exs K mg base) (Fu : FunD K "first_twice" "first_twice" (defArgs s_first_twice) (defBody s_first_twice) (defScope s_first_twice) [] [] (He.ga K "first_twice") fd) : FnOk P w K mg base (L2.CX P w) 1 (He.ga K "first_twice") fd ["values"] (spM (gxOf tq K mg) 1 f_first_twice) :=
  fnD (N := ["values", "known", "each"]) (k := 0) (m := m_first_twice) rfl Fu sc_first_twice fun cdv A outer s H E F hc eG hr ft => by
    obtain ⟨G', Φ0, H0, Pl, rw⟩ := F; cases eG
    exact (bl_ft ft (hd.free 45))
theorem d_first_twice (hd : HdOk fa fn tq exs K mg base) : DefOk P w K mg base (gxOf tq K mg) 1 "first_twice" 1 f_first_twice := by
  obtain ⟨fd, Fu⟩ := hd.df 27 (d := df27)
  exact ⟨⟨_, fd, _, o_first_twice hd Fu, hd.glo 8, Fu.kp, FunD.bindsN (ps := ["values"]) Fu (fun _ _ _ _ _ _ us hl => match us, hl with | [_], _ => rfl)⟩, proper_run, arity_run⟩
theorem kw_first_twice_0 (hd : HdOk fa fn tq exs K mg base) : KwOk P w K mg base (gxOf tq K mg) 1 "first_twice" 1 ["values"] [0] f_first_twice := by
  obtain ⟨fd, Fu⟩ := hd.df 27 (d := df27)
  exact kwOk (d_first_twice hd) Fu (hd.glo 8) rfl (fun _ _ _ _ _ _ us hl => match us, hl with | [_], _ => rfl) (o_first_twice hd Fu)
theorem sc__law_twice_right : FnScope ["_law_cup_here", "_law_row", "_law_turn", "_law_again", "_law_at", "_law_each", "_law_texts"] ["_law_cup_here"] (defScope s__law_twice_right) := C8.fnScope_by (by decide +kernel)
theorem o__law_twice_right {fd : FuncData} (hd : HdOk fa fn tq exs K mg base) (Fu : FunD K "_law_twice_right" "_law_twice_right" (defArgs s__law_twice_right) (defBody s__law_twice_right) (defScope s__law_twice_right) [] [] (He.ga K "_law_twice_right") fd) : FnOk P w K mg base (L2.CX P w) 2 (He.ga K "_law_twice_right") fd ["_law_cup_here"] (spM (gxOf tq K mg) 1 f__law_twice_right) :=
  fnD (N := ["_law_cup_here", "_law_row", "_law_turn", "_law_again", "_law_at", "_law_each", "_law_texts"]) (k := 1) (m := m__law_twice_right) rfl Fu sc__law_twice_right fun cdv A outer s H E F hc eG hr ft => by
    obtain ⟨G', Φ0, H0, Pl, rw⟩ := F; cases eG
    exact (bl_cons (sm_set 1 ft.nd (em_comp [("_law_turn", 2)] ft (im_range1 (hd.free 32) (lm_cons (em_callL ft (hr.mono (by decide)) (d__law_dip hd) (lm_cons (em_var 0) (lm_cons em_int lm_nil))) lm_nil)) (fun s H C cl fp ft => (gm_name 2 ft.nd)) (fun s H C cl fp ft => pts_yes) (fun s H C cl fp ft => (em_callL ft (hr.mono (by decide)) (d__law_dip hd) (lm_cons (em_var 0) (lm_cons em_int lm_nil)))))) (bl_cons (sm_setComp 3 [("_law_at", 4), ("_law_each", 5)] ft (im_enum ft (hd.free 40) (lm_cons (em_var 1) lm_nil)) (fun s H C cl fp ft => (gm_tup 2 ft.K ft.calm (gsm_cons (gm_name 4 ft.nd) (gsm_cons (gm_name 5 ft.nd) gsm_nil)))) (fun s H C cl fp ft => (pts_m (t_in ft (unitsOk5 hr) (em_var 5) (em_sl ft.K (em_var 1) om_none (om_some (em_var 4)))))) (fun s H C cl fp ft => (em_var 5))) (bl_cons (sm_if (t_ne ft (unitsOk hr) (em_callK (ks := ["values"]) (ix := [0]) ft (hr.mono (by decide)) (kw_first_twice_0 hd) (km_cons (em_var 1) km_nil)) (em_if (t_ne ft (unitsOk hr) (em_var 3) (em_lst lm_nil)) (x_ix ft (em_var 3) em_int) em_non)) (bl_one (sm_ret em_bl)) bl_nil) (bl_cons (sm_setComp 6 [("_law_each", 5)] ft (im_seq ft (em_var 1)) (fun s H C cl fp ft => (gm_name 5 ft.nd)) (fun s H C cl fp ft => pts_yes) (fun s H C cl fp ft => (x_add ft em_str (x_str (hd.free 41) (lm_cons (em_var 5) lm_nil))))) (bl_one (sm_ret (x_eq ft (unitsOk hr) (em_callV ft (hr.mono (by decide)) (d_first_twice hd) (lm_cons (x_tuple ft (hd.free 35) (lm_cons (em_var 6) lm_nil)) lm_nil)) (em_if (t_ne ft (unitsOk hr) (em_var 3) (em_lst lm_nil)) (x_ix ft (em_var 6) (em_index ft (unitsOk5 hr) (em_var 1) (lm_cons (x_ix ft (em_var 3) em_int) lm_nil))) em_non))))))))
theorem d__law_twice_right (hd : HdOk fa fn tq exs K mg base) : DefOk P w K mg base (gxOf tq K mg) 2 "_law_twice_right" 1 f__law_twice_right := by
  obtain ⟨fd, Fu⟩ := hd.df 28 (d := df28)
  exact ⟨⟨_, fd, _, o__law_twice_right hd Fu, hd.glo 29, Fu.kp, FunD.bindsN (ps := ["_law_cup_here"]) Fu (fun _ _ _ _ _ _ us hl => match us, hl with | [_], _ => rfl)⟩, proper_run, arity_run⟩
theorem sc_law : FnScope ["_law_script", "_law_cup_here", "_law_turn", "_law_odd", "_law_also", "_law_none", "_law_heard"] ["_law_script"] (defScope s_law) := C8.fnScope_by (by decide +kernel)
theorem o_law {fd : FuncData} (hd : HdOk fa fn tq exs K mg base) (Fu : FunD K "law" "law" (defArgs s_law) (defBody s_law) (defScope s_law) [] [] (He.ga K "law") fd) : FnOk P w K mg base (L2.CX P w) 7 (He.ga K "law") fd ["_law_script"] (spM (gxOf tq K mg) 1 f_law) :=
  fnD (N := ["_law_script", "_law_cup_here", "_law_turn", "_law_odd", "_law_also", "_law_none", "_law_heard"]) (k := 6) (m := m_law) rfl Fu sc_law fun cdv A outer s H E F hc eG hr ft => by
    obtain ⟨G', Φ0, H0, Pl, rw⟩ := F; cases eG
    exact (bl_cons (sm_set 1 ft.nd (em_callV ft (hr.mono (by decide)) (d__law_cup hd) (lm_cons (em_var 0) lm_nil))) (bl_cons (sm_for ft (im_range1 (hd.free 32) (lm_cons em_int lm_nil)) (gm_name 2 ft.nd) (bl_cons (sm_if (wm_or (bm_not (bm_val (em_callL ft (hr.mono (by decide)) (d__law_integers_right hd) (lm_cons (em_var 1) lm_nil)))) (wm_or (bm_not (bm_val (em_callL ft (hr.mono (by decide)) (d__law_names_right hd) (lm_cons (em_var 1) lm_nil)))) (wm_or (bm_not (bm_val (em_callL ft (hr.mono (by decide)) (d__law_ratios_right hd) (lm_cons (em_var 1) lm_nil)))) (wm_or1 (bm_not (bm_val (em_callL ft (hr.mono (by decide)) (d__law_twice_right hd) (lm_cons (em_var 1) lm_nil)))))))).pt (bl_one (sm_ret em_bl)) bl_nil) (bl_one (sm_if (bm_not (bm_val (em_callL ft (hr.mono (by decide)) (d__law_divisors_right hd) (lm_cons (em_var 1) lm_nil)))) (bl_one (sm_ret em_bl)) bl_nil)))) (bl_cons (sm_asg (em_tup (lm_cons (em_callL ft (hr.mono (by decide)) (d__law_value hd) (lm_cons (em_var 1) lm_nil)) (lm_cons (em_callL ft (hr.mono (by decide)) (d__law_value hd) (lm_cons (em_var 1) lm_nil)) lm_nil))) (gm_tup 2 ft.K ft.calm (gsm_cons (gm_name 3 ft.nd) (gsm_cons (gm_name 4 ft.nd) gsm_nil)))) (bl_cons (sm_set 5 ft.nd (em_callL ft (hr.mono (by decide)) (d__law_pick hd) (lm_cons (em_var 1) (lm_cons (em_lst (lm_cons em_non (lm_cons em_int (lm_cons em_str (lm_cons (em_lst (lm_cons em_non lm_nil)) (lm_cons (em_lst (lm_cons em_bl lm_nil)) (lm_cons (em_lst (lm_cons em_int (lm_cons em_str lm_nil))) (lm_cons em_dic (lm_cons (em_tup (lm_cons em_int (lm_cons (em_tup (lm_cons em_int lm_nil)) lm_nil))) lm_nil))))))))) lm_nil)))) (bl_cons (sm_set 6 ft.nd (em_lst (lm_cons (em_lam (k := 4) [5] ft (hr.mono (by decide)) (gv__law_part hd) (tabOk hd Fu hc 0 rfl rfl (tabU hd)) rfl (by decide) (hbody := fun A outer s H E f c' F' W' eG hr ft => by obtain ⟨G', Φ0', H0', Pl', rw'⟩ := F'; cases eG; exact (em_callV ft (hr.mono (by decide)) (d_common_divisor hd) (lm_cons (em_var 5) lm_nil)))) lm_nil))) (bl_cons (sm_expr (em_append (em_var 6) (lm_cons (em_lam (k := 4) [5] ft (hr.mono (by decide)) (gv__law_part hd) (tabOk hd Fu hc 0 rfl rfl (tabU hd)) rfl (by decide) (hbody := fun A outer s H E f c' F' W' eG hr ft => by obtain ⟨G', Φ0', H0', Pl', rw'⟩ := F'; cases eG; exact (em_callV ft (hr.mono (by decide)) (d_primitive hd) (lm_cons (em_var 5) lm_nil)))) lm_nil))) (bl_cons (sm_expr (em_append (em_var 6) (lm_cons (em_lam (k := 4) [3] ft (hr.mono (by decide)) (gv__law_part hd) (tabOk hd Fu hc 0 rfl rfl (tabU hd)) rfl (by decide) (hbody := fun A outer s H E f c' F' W' eG hr ft => by obtain ⟨G', Φ0', H0', Pl', rw'⟩ := F'; cases eG; exact (em_callV ft (hr.mono (by decide)) (d_lowest hd) (lm_cons (em_var 3) (lm_cons em_int lm_nil))))) lm_nil))) (bl_cons (sm_expr (em_append (em_var 6) (lm_cons (em_lam (k := 4) [4] ft (hr.mono (by decide)) (gv__law_part hd) (tabOk hd Fu hc 0 rfl rfl (tabU hd)) rfl (by decide) (hbody := fun A outer s H E f c' F' W' eG hr ft => by obtain ⟨G', Φ0', H0', Pl', rw'⟩ := F'; cases eG; exact (em_callV ft (hr.mono (by decide)) (d_lowest hd) (lm_cons em_int (lm_cons (em_var 4) lm_nil))))) lm_nil))) (bl_cons (sm_expr (em_append (em_var 6) (lm_cons (em_lam (k := 4) [] ft (hr.mono (by decide)) (gv__law_part hd) (tabOk hd Fu hc 0 rfl rfl (tabU hd)) rfl (by decide) (hbody := fun A outer s H E f c' F' W' eG hr ft => by obtain ⟨G', Φ0', H0', Pl', rw'⟩ := F'; cases eG; exact (em_callV ft (hr.mono (by decide)) (d_lowest hd) (lm_cons em_int (lm_cons em_int lm_nil))))) lm_nil))) (bl_cons (sm_expr (em_append (em_var 6) (lm_cons (em_lam (k := 4) [] ft (hr.mono (by decide)) (gv__law_part hd) (tabOk hd Fu hc 0 rfl rfl (tabU hd)) rfl (by decide) (hbody := fun A outer s H E f c' F' W' eG hr ft => by obtain ⟨G', Φ0', H0', Pl', rw'⟩ := F'; cases eG; exact (em_callV ft (hr.mono (by decide)) (d_lowest hd) (lm_cons em_int (lm_cons (x_neg em_int) lm_nil))))) lm_nil))) (bl_one (sm_ret (em_and (x_eq ft (unitsOk hr) (em_var 6) (em_lst (lm_cons em_str (lm_cons em_str (lm_cons em_str (lm_cons em_str (lm_cons em_str (lm_cons em_non lm_nil)))))))) (em_one (x_eq ft (unitsOk hr) (em_callV ft (hr.mono (by decide)) (d_lowest hd) (lm_cons em_int (lm_cons (x_neg em_int) lm_nil))) (em_tup (lm_cons em_int (lm_cons em_int lm_nil))))))))))))))))))
theorem d_law (hd : HdOk fa fn tq exs K mg base) : DefOk P w K mg base (gxOf tq K mg) 7 "law" 1 f_law := by
  obtain ⟨fd, Fu⟩ := hd.df 29 (d := df29)
  exact ⟨⟨_, fd, _, o_law hd Fu, hd.glo 31, Fu.kp, FunD.bindsN (ps := ["_law_script"]) Fu (fun _ _ _ _ _ _ us hl => match us, hl with | [_], _ => rfl)⟩, proper_run, arity_run⟩
end
end
end K01

namespace K01
open PySem PySem.Spec PyProof.Rows L2 Mi
/-! #### the cup -/
def Ct (c n s : Int) : O := .lst [.int c, .int n, .int s]
def VS (o : O) (k : Nat) : Prop := ∃ c n s : Int, o = Ct c n s ∧ 0 ≤ c ∧ 0 ≤ n ∧ n ≤ k ∧ 0 ≤ s ∧ s < 998244353
theorem two_le {a b : Nat} (h : a ≤ b) : (2 : Int) ^ a ≤ 2 ^ b := by
  have := Nat.pow_le_pow_right (n := 2) (by decide) h
  exact_mod_cast this
theorem VS.up {o : O} {a b : Nat} (h : VS o a) (l : a ≤ b) : VS o b := by
  obtain ⟨c, n, s, e, h1, h2, h3, h4, h5⟩ := h
  exact ⟨c, n, s, e, h1, h2, by omega, h4, h5⟩
theorem dip_v {o : O} {k : Nat} {many : Int} (h : VS o k) (hk : k < 1000000) (h4 : 0 < many) (h5 : many < 2 ^ 200) : ∃ (v : Int) (o' : O), f__law_dip [.lent 0 o, .val (.int many)] = .ok (.val (.int v), [.lent 0 o', .non]) ∧ 0 ≤ v ∧ v < many ∧ VS o' (k + 1) := by
  obtain ⟨c, n, s, rfl, hc, hn, hnk, hs, hs2⟩ := h
  have dv := fun i => div_ok (i := i) (j := many) (by omega) (Nat.lt_of_lt_of_le (show many.natAbs < 2 ^ 200 by omega) (Nat.pow_le_pow_right (by decide) (by decide)))
  have md := fun i => mod_ok (i := i) h4
  have fd : ∀ i : Int, i.fdiv many = i / many := fun i => Int.fdiv_eq_ediv_of_nonneg i (by omega)
  by_cases h0 : c = 0
  · subst h0
    have w1 := mul_l (i := 2) (j := n + 1) (by decide)
    have w2 := mul_l (i := s) (j := 2 * (n + 1) + 1) (by omega)
    have w3 := mul_l (i := 91411) (j := n + 1) (by decide)
    have b1 := ab_mul (a := s) (b := 2 * (n + 1) + 1) (p := 30) (q := 22) (by omega) (by omega)
    have nn : 0 ≤ s * (2 * (n + 1) + 1) := Int.mul_nonneg hs (by omega)
    have p3 := pow_ok (i := s * (2 * (n + 1) + 1) + 91411 * (n + 1) + 59) (j := 3) (by omega) (by decide) (by decide)
    have e0 : fEq (.int 0) (.int 0) = some (.val (.bl true)) := by rw [Mi.eq_int]; rfl
    obtain ⟨c', hc'⟩ : ∃ c', c' = (s * (2 * (n + 1) + 1) + 91411 * (n + 1) + 59) ^ (3 : Int).toNat := ⟨_, rfl⟩
    have cp : 0 ≤ c' := by rw [hc']; exact Int.pow_nonneg (by omega)
    refine ⟨c' % many, Ct (c' / many) (n + 1) s, ?_, Int.emod_nonneg _ (by omega), Int.emod_lt_of_pos _ h4, c' / many, n + 1, s, rfl, Int.ediv_nonneg cp (by omega), by omega, by omega, hs, hs2⟩
    rw [← hc'] at p3
    simp only [f__law_dip, m__law_dip, Ct, onL, set0, set1, e0, w1, w2, w3, p3, dv, md, fd, bnd_ap, of_ap, seq_ap, asg_ap, ret_ap, retN_ap, sif_ap, expr_ap, par_ap, par3_ap, asgT_ap, nil_ap, brk_ap, cnt_ap, give_val, give_own, give_ali, take_val, take_own, take_ali, ta_nil, ta_cons, pk_val, pk_own, pk_ali, pa_nil', pa_cons', var_ap, lit_ap, op_ap, un_ap, cb_ap, lc_ap, ln_ap, tup_ap, lst_ap, cv_ap, ck_ap, cl_ap, and_ap, or_ap, not_ap, eif_ap, bval_ap, bnot_ap, band_ap, bor_ap, gnam_ap, gtup_ap, gend_ap, gcons_ap, rng_ap, for_ap, loop_nil, setIx_ap, run_ap, M.ret, unpk, asB, back, retS, fit_of, sInt, sBl, fIx, fLen, fAbs, fInt, fList, Mi.isNon, fIsN, fNotN, fCmp, fLt, fLe, fGt, fGe, fAdd, fSub, fNeg, O.frz, Mi.pick, List.getElem?_cons_zero, List.getElem?_cons_succ, List.getElem?_nil, List.set_cons_zero, List.set_cons_succ, List.map_cons, List.map_nil, List.length_cons, List.length_nil, List.replicate_succ, List.replicate_zero, List.cons_append, List.nil_append, Option.map_some, Option.map_none, if_true, if_false, Bool.false_eq_true, Bool.not_true, Bool.not_false, decide_true, decide_false, reduceIte, ne_eq, not_true_eq_false, not_false_eq_true, List.getD_cons_zero, List.getD_cons_succ, Nat.reduceAdd, Nat.reduceSub, Nat.reduceLeDiff, Nat.reduceEqDiff, atI_0, atI_1, atI_2]
  · have e0 : fEq (.int c) (.int 0) = some (.val (.bl false)) := by rw [Mi.eq_int]; simp [h0]
    refine ⟨c % many, Ct (c / many) n s, ?_, Int.emod_nonneg _ (by omega), Int.emod_lt_of_pos _ h4, c / many, n, s, rfl, Int.ediv_nonneg hc (by omega), hn, by omega, hs, hs2⟩
    simp only [f__law_dip, m__law_dip, Ct, onL, set0, set1, e0, dv, md, fd, bnd_ap, of_ap, seq_ap, asg_ap, ret_ap, retN_ap, sif_ap, expr_ap, par_ap, par3_ap, asgT_ap, nil_ap, brk_ap, cnt_ap, give_val, give_own, give_ali, take_val, take_own, take_ali, ta_nil, ta_cons, pk_val, pk_own, pk_ali, pa_nil', pa_cons', var_ap, lit_ap, op_ap, un_ap, cb_ap, lc_ap, ln_ap, tup_ap, lst_ap, cv_ap, ck_ap, cl_ap, and_ap, or_ap, not_ap, eif_ap, bval_ap, bnot_ap, band_ap, bor_ap, gnam_ap, gtup_ap, gend_ap, gcons_ap, rng_ap, for_ap, loop_nil, setIx_ap, run_ap, M.ret, unpk, asB, back, retS, fit_of, sInt, sBl, fIx, fLen, fAbs, fInt, fList, Mi.isNon, fIsN, fNotN, fCmp, fLt, fLe, fGt, fGe, fAdd, fSub, fNeg, O.frz, Mi.pick, List.getElem?_cons_zero, List.getElem?_cons_succ, List.getElem?_nil, List.set_cons_zero, List.set_cons_succ, List.map_cons, List.map_nil, List.length_cons, List.length_nil, List.replicate_succ, List.replicate_zero, List.cons_append, List.nil_append, Option.map_some, Option.map_none, if_true, if_false, Bool.false_eq_true, Bool.not_true, Bool.not_false, decide_true, decide_false, reduceIte, ne_eq, not_true_eq_false, not_false_eq_true, List.getD_cons_zero, List.getD_cons_succ, Nat.reduceAdd, Nat.reduceSub, Nat.reduceLeDiff, Nat.reduceEqDiff, atI_0, atI_1, atI_2]
theorem pick_v {o : O} {n : Nat} {xs : List D} (h : VS o n) (hn : n < 1000000) (h4 : 0 < xs.length) (h5 : xs.length ≤ 1000) : ∃ (x : D) (o' : O), f__law_pick [.lent 0 o, .val (.lst xs)] = .ok (.val x, [.lent 0 o', .non]) ∧ x ∈ xs ∧ VS o' (n + 1) := by
  obtain ⟨v, o', e, a, b, c⟩ := dip_v (many := (xs.length : Int)) h hn (by omega) (by omega)
  obtain ⟨x, e2, m⟩ := atI_mem a b
  refine ⟨x, o', ?_, m, c⟩
  simp only [f__law_pick, m__law_pick, lendTo, hand, e, e2, bnd_ap, of_ap, seq_ap, asg_ap, ret_ap, retN_ap, sif_ap, expr_ap, par_ap, par3_ap, asgT_ap, nil_ap, brk_ap, cnt_ap, give_val, give_own, give_ali, take_val, take_own, take_ali, ta_nil, ta_cons, pk_val, pk_own, pk_ali, pa_nil', pa_cons', var_ap, lit_ap, op_ap, un_ap, cb_ap, lc_ap, ln_ap, tup_ap, lst_ap, cv_ap, ck_ap, cl_ap, and_ap, or_ap, not_ap, eif_ap, bval_ap, bnot_ap, band_ap, bor_ap, gnam_ap, gtup_ap, gend_ap, gcons_ap, rng_ap, for_ap, loop_nil, setIx_ap, run_ap, M.ret, unpk, asB, back, retS, fit_of, sInt, sBl, fIx, fLen, fAbs, fInt, fList, Mi.isNon, fIsN, fNotN, fCmp, fLt, fLe, fGt, fGe, fAdd, fSub, fNeg, O.frz, Mi.pick, List.getElem?_cons_zero, List.getElem?_cons_succ, List.getElem?_nil, List.set_cons_zero, List.set_cons_succ, List.map_cons, List.map_nil, List.length_cons, List.length_nil, List.replicate_succ, List.replicate_zero, List.cons_append, List.nil_append, Option.map_some, Option.map_none, if_true, if_false, Bool.false_eq_true, Bool.not_true, Bool.not_false, decide_true, decide_false, reduceIte, ne_eq, not_true_eq_false, not_false_eq_true, List.getD_cons_zero, List.getD_cons_succ, Nat.reduceAdd, Nat.reduceSub, Nat.reduceLeDiff, Nat.reduceEqDiff, atI_0, atI_1, atI_2]
theorem p10_60 : fPow (.int 10) (.int 60) = some (.val (.int (10 ^ 60))) := by
  rw [pow_ok (by decide) (by decide) (by decide)]
  rfl
theorem p10_300 : fPow (.int (10 ^ 60)) (.int 5) = some (.val (.int (10 ^ 300))) := by
  have h : powFits (10 ^ 60) 5 = true := by decide +kernel
  have e : ((10 : Int) ^ 60) ^ (5 : Int).toNat = 10 ^ 300 := by decide +kernel
  simp only [fPow, h, if_true, sInt, e]
noncomputable def cupB : M Fl := (sAsg 1 (eOp fAdd (eOp fMul (eVar 1) (eLit (.int 1000409))) (eOp fMod (eOp fAdd (eOp fMul (eLit (.int 2)) (eCB fAbs (lCons (eCB fInt (lCons (eVar 2) (lNil))) (lNil)))) (eCB fInt (lCons (eOp fLt (eVar 2) (eLit (.int 0))) (lNil)))) (eOp fPow (eOp fPow (eLit (.int 10)) (eLit (.int 60))) (eLit (.int 5))))))
theorem cup_step (a : Mi.S) (num c : Int) (h : num.natAbs < 2 ^ 3000) (h0 : 0 ≤ num) : ∃ r : Int, cupB [a, .val (.int num), .val (.int c)] = .ok (.nx, [a, .val (.int (num * 1000409 + r)), .val (.int c)]) ∧ 0 ≤ r ∧ r < 2 ^ 1000 := by
  have w1 := mul_big (i := num) (j := 1000409) (Nat.lt_of_lt_of_le h (Nat.pow_le_pow_right (by decide) (by decide))) (by decide +kernel)
  have w2 := mul_l (i := 2) (j := (c.natAbs : Int)) (by decide)
  have m1 := fun i => mod_ok (i := i) (j := 10 ^ 300) (by decide +kernel)
  refine ⟨(2 * (c.natAbs : Int) + (if decide (c < 0) = true then 1 else 0)) % 10 ^ 300, ?_, Int.emod_nonneg _ (by decide +kernel), Int.lt_trans (Int.emod_lt_of_pos _ (by decide +kernel)) (by decide +kernel)⟩
  simp only [cupB, w1, w2, m1, p10_60, p10_300, abs_eq, bnd_ap, of_ap, seq_ap, asg_ap, ret_ap, retN_ap, sif_ap, expr_ap, par_ap, par3_ap, asgT_ap, nil_ap, brk_ap, cnt_ap, give_val, give_own, give_ali, take_val, take_own, take_ali, ta_nil, ta_cons, pk_val, pk_own, pk_ali, pa_nil', pa_cons', var_ap, lit_ap, op_ap, un_ap, cb_ap, lc_ap, ln_ap, tup_ap, lst_ap, cv_ap, ck_ap, cl_ap, and_ap, or_ap, not_ap, eif_ap, bval_ap, bnot_ap, band_ap, bor_ap, gnam_ap, gtup_ap, gend_ap, gcons_ap, rng_ap, for_ap, loop_nil, setIx_ap, run_ap, M.ret, unpk, asB, back, retS, fit_of, sInt, sBl, fIx, fLen, fAbs, fInt, fList, Mi.isNon, fIsN, fNotN, fCmp, fLt, fLe, fGt, fGe, fAdd, fSub, fNeg, O.frz, Mi.pick, List.getElem?_cons_zero, List.getElem?_cons_succ, List.getElem?_nil, List.set_cons_zero, List.set_cons_succ, List.map_cons, List.map_nil, List.length_cons, List.length_nil, List.replicate_succ, List.replicate_zero, List.cons_append, List.nil_append, Option.map_some, Option.map_none, if_true, if_false, Bool.false_eq_true, Bool.not_true, Bool.not_false, decide_true, decide_false, reduceIte, ne_eq, not_true_eq_false, not_false_eq_true, List.getD_cons_zero, List.getD_cons_succ, Nat.reduceAdd, Nat.reduceSub, Nat.reduceLeDiff, Nat.reduceEqDiff, atI_0, atI_1, atI_2]
theorem cup_loop (a : Mi.S) : ∀ (cs : List Int) (num : Int) (r : Mi.S) (k : Nat), 0 ≤ num → num < 2 ^ (1000 + 21 * k) → k + cs.length ≤ 90 → ∃ (N : Int) (r' : Mi.S), loopM noPin (gNam 2) cupB (cs.map D.int) [a, .val (.int num), r] = .ok (.nx, [a, .val (.int N), r']) ∧ 0 ≤ N
  | [], num, r, k, h0, _, _ => ⟨num, r, by rw [List.map_nil, loop_nil], h0⟩
  | c :: cs, num, r, k, h0, h1, hl => by
    rw [List.length_cons] at hl
    have le : (2 : Int) ^ (1000 + 21 * k) ≤ 2 ^ 3000 := two_le (by omega)
    obtain ⟨q, e, q0, q1⟩ := cup_step a num c (by omega) h0
    have ge : (2 : Int) ^ 1000 ≤ 2 ^ (1000 + 21 * k) := two_le (by omega)
    have tw : (2 : Int) ^ (1000 + 21 * (k + 1)) = 2 ^ (1000 + 21 * k) * 2 ^ 21 := by rw [← Int.pow_add]; rfl
    obtain ⟨X, hX⟩ : ∃ X : Int, X = 2 ^ (1000 + 21 * k) := ⟨_, rfl⟩
    obtain ⟨Y, hY⟩ : ∃ Y : Int, Y = 2 ^ 1000 := ⟨_, rfl⟩
    rw [← hX] at tw ge h1
    rw [← hY] at ge q1
    obtain ⟨N, r', e2, n0⟩ := cup_loop a cs (num * 1000409 + q) (.val (.int c)) (k + 1) (by omega) (by rw [tw]; omega) (by omega)
    refine ⟨N, r', ?_, n0⟩
    rw [List.map_cons, loop_cons]
    simp only [gnam_ap, List.set_cons_succ, List.set_cons_zero, e, e2]
theorem cup_v (ns : List Int) : ∃ o, f__law_cup [.val (.scr (ns.map D.int))] = .ok (.own o, [.non]) ∧ VS o 0 := by
  have hs : items (.lst (cut (ns.map D.int) none (some 40))) = some ((ns.take 40).map D.int) := by
    have e : HT.sIx (ns.map D.int).length (ns.map D.int).length (some 40) = min 40 (ns.map D.int).length := HT.sIx_nat _ _ 40
    show some (cut (ns.map D.int) none (some 40)) = _
    unfold cut
    rw [HT.sIx_none, e, List.drop_zero, Nat.sub_zero, List.map_take, List.length_map]
    refine congrArg some ?_
    rw [List.take_eq_take_iff]
    simp only [List.length_map]
    omega
  obtain ⟨N, r', e, n0⟩ := cup_loop (.val (.scr (ns.map D.int))) (ns.take 40) 127 .non 0 (by decide) (by decide +kernel) (by rw [List.length_take]; omega)
  refine ⟨Ct N 0 (N % 998244353), ?_, N, 0, N % 998244353, rfl, n0, by decide, by decide, Int.emod_nonneg _ (by decide), Int.emod_lt_of_pos _ (by decide)⟩
  have i1 := iseq_own (.lst (cut (ns.map D.int) none (some 40))) (ma := eSl (eVar 0) pNone (pSome (eLit (.int 40)))) (τ := [.val (.scr (ns.map D.int)), .val (.int 127), .non]) (τ1 := [.val (.scr (ns.map D.int)), .val (.int 127), .non]) (by simp only [eSl, pNone, pSome, asI, fSl, bnd_ap, of_ap, seq_ap, asg_ap, ret_ap, retN_ap, sif_ap, expr_ap, par_ap, par3_ap, asgT_ap, nil_ap, brk_ap, cnt_ap, give_val, give_own, give_ali, take_val, take_own, take_ali, ta_nil, ta_cons, pk_val, pk_own, pk_ali, pa_nil', pa_cons', var_ap, lit_ap, op_ap, un_ap, cb_ap, lc_ap, ln_ap, tup_ap, lst_ap, cv_ap, ck_ap, cl_ap, and_ap, or_ap, not_ap, eif_ap, bval_ap, bnot_ap, band_ap, bor_ap, gnam_ap, gtup_ap, gend_ap, gcons_ap, rng_ap, for_ap, loop_nil, setIx_ap, run_ap, M.ret, unpk, asB, back, retS, fit_of, sInt, sBl, fIx, fLen, fAbs, fInt, fList, Mi.isNon, fIsN, fNotN, fCmp, fLt, fLe, fGt, fGe, fAdd, fSub, fNeg, O.frz, Mi.pick, List.getElem?_cons_zero, List.getElem?_cons_succ, List.getElem?_nil, List.set_cons_zero, List.set_cons_succ, List.map_cons, List.map_nil, List.length_cons, List.length_nil, List.replicate_succ, List.replicate_zero, List.cons_append, List.nil_append, Option.map_some, Option.map_none, if_true, if_false, Bool.false_eq_true, Bool.not_true, Bool.not_false, decide_true, decide_false, reduceIte, ne_eq, not_true_eq_false, not_false_eq_true, List.getD_cons_zero, List.getD_cons_succ, Nat.reduceAdd, Nat.reduceSub, Nat.reduceLeDiff, Nat.reduceEqDiff, atI_0, atI_1, atI_2]) hs
  have md := mod_ok (i := N) (j := 998244353) (by decide)
  have eb : (sAsg 1 (eOp fAdd (eOp fMul (eVar 1) (eLit (.int 1000409))) (eOp fMod (eOp fAdd (eOp fMul (eLit (.int 2)) (eCB fAbs (lCons (eCB fInt (lCons (eVar 2) (lNil))) (lNil)))) (eCB fInt (lCons (eOp fLt (eVar 2) (eLit (.int 0))) (lNil)))) (eOp fPow (eOp fPow (eLit (.int 10)) (eLit (.int 60))) (eLit (.int 5)))))) = cupB := rfl
  rw [f__law_cup, run_ap]
  simp only [m__law_cup, eb]
  simp only [i1, e, md, Ct, bnd_ap, of_ap, seq_ap, asg_ap, ret_ap, retN_ap, sif_ap, expr_ap, par_ap, par3_ap, asgT_ap, nil_ap, brk_ap, cnt_ap, give_val, give_own, give_ali, take_val, take_own, take_ali, ta_nil, ta_cons, pk_val, pk_own, pk_ali, pa_nil', pa_cons', var_ap, lit_ap, op_ap, un_ap, cb_ap, lc_ap, ln_ap, tup_ap, lst_ap, cv_ap, ck_ap, cl_ap, and_ap, or_ap, not_ap, eif_ap, bval_ap, bnot_ap, band_ap, bor_ap, gnam_ap, gtup_ap, gend_ap, gcons_ap, rng_ap, for_ap, loop_nil, setIx_ap, run_ap, M.ret, unpk, asB, back, retS, fit_of, sInt, sBl, fIx, fLen, fAbs, fInt, fList, Mi.isNon, fIsN, fNotN, fCmp, fLt, fLe, fGt, fGe, fAdd, fSub, fNeg, O.frz, Mi.pick, List.getElem?_cons_zero, List.getElem?_cons_succ, List.getElem?_nil, List.set_cons_zero, List.set_cons_succ, List.map_cons, List.map_nil, List.length_cons, List.length_nil, List.replicate_succ, List.replicate_zero, List.cons_append, List.nil_append, Option.map_some, Option.map_none, if_true, if_false, Bool.false_eq_true, Bool.not_true, Bool.not_false, decide_true, decide_false, reduceIte, ne_eq, not_true_eq_false, not_false_eq_true, List.getD_cons_zero, List.getD_cons_succ, Nat.reduceAdd, Nat.reduceSub, Nat.reduceLeDiff, Nat.reduceEqDiff, atI_0, atI_1, atI_2]
end K01

namespace K01
open PySem PySem.Spec PyProof.Rows L2 Mi
/-! #### what is an integer -/
def isI : D → Bool
  | .int _ => true
  | _ => false
def tgd : D → Bool
  | .non => true
  | .bl _ => true
  | .int _ => true
  | .str _ => true
  | .lst _ => true
  | .tup _ => true
  | .dic _ => true
  | _ => false
theorem int_any {d : D} (h : tgd d = true) : f_is_integer [.val d] = .ok (.val (.bl (isI d)), [.non]) := by
  have gen : ∀ b1 b2 : Bool, fIsi isT [d, .ty "int"] = some (.val (.bl b1)) → fIsi isT [d, .ty "bool"] = some (.val (.bl b2)) → isI d = (b1 && !b2) → f_is_integer [.val d] = .ok (.val (.bl (isI d)), [.non]) := fun b1 b2 e1 e2 e3 => by
    cases b1 <;> cases b2 <;> simp only [f_is_integer, m_is_integer, e1, e2, e3, bnd_ap, of_ap, seq_ap, asg_ap, ret_ap, retN_ap, sif_ap, expr_ap, par_ap, par3_ap, asgT_ap, nil_ap, brk_ap, cnt_ap, give_val, give_own, give_ali, take_val, take_own, take_ali, ta_nil, ta_cons, pk_val, pk_own, pk_ali, pa_nil', pa_cons', var_ap, lit_ap, op_ap, un_ap, cb_ap, lc_ap, ln_ap, tup_ap, lst_ap, cv_ap, ck_ap, cl_ap, and_ap, or_ap, not_ap, eif_ap, bval_ap, bnot_ap, band_ap, bor_ap, gnam_ap, gtup_ap, gend_ap, gcons_ap, rng_ap, for_ap, loop_nil, setIx_ap, run_ap, M.ret, unpk, asB, back, retS, fit_of, sInt, sBl, fIx, fLen, fAbs, fInt, fList, Mi.isNon, fIsN, fNotN, fCmp, fLt, fLe, fGt, fGe, fAdd, fSub, fNeg, O.frz, Mi.pick, List.getElem?_cons_zero, List.getElem?_cons_succ, List.getElem?_nil, List.set_cons_zero, List.set_cons_succ, List.map_cons, List.map_nil, List.length_cons, List.length_nil, List.replicate_succ, List.replicate_zero, List.cons_append, List.nil_append, Option.map_some, Option.map_none, if_true, if_false, Bool.false_eq_true, Bool.not_true, Bool.not_false, decide_true, decide_false, reduceIte, ne_eq, not_true_eq_false, not_false_eq_true, List.getD_cons_zero, List.getD_cons_succ, Nat.reduceAdd, Nat.reduceSub, Nat.reduceLeDiff, Nat.reduceEqDiff, atI_0, atI_1, atI_2, lam_ap, append_ap, make_ap, setF_ap, own_ap, meth_ap, methD_ap, norm_val, norm_own, norm_ali, onMethD_ap, onMeth_val, onMeth_ali, lz_ap, raise_ap, try_ap, thunk_raw, thunk_exc, byes_ap, Mi.insAt, lendTo, hand, eChain, Mi.isL, onL, okFl] <;> rfl
  cases d with
  | non => exact gen false false rfl rfl rfl
  | bl b => exact gen true true rfl rfl rfl
  | int i => exact gen true false rfl rfl rfl
  | str x => exact gen false false rfl rfl rfl
  | lst xs => exact gen false false rfl rfl rfl
  | tup xs => exact gen false false rfl rfl rfl
  | dic kvs => exact gen false false rfl rfl rfl
  | scr xs => cases h
  | ins c fs => cases h
  | exc c fs => cases h
  | ty n => cases h
  | cls c => cases h
  | fn f => cases h
def lo (a : D) (i : Int) : Bool := match a with
  | .int a => decide (a ≤ i)
  | _ => true
def hi (a : D) (i : Int) : Bool := match a with
  | .int a => decide (i ≤ a)
  | _ => true
def bd (a : D) : Bool := match a with
  | .int _ => true
  | .non => true
  | _ => false
theorem isn_ap (d : D) : fIsN d .non = some (.val (.bl (Mi.isNon d))) := rfl
theorem lo_ok {a : D} (ha : bd a = true) (i : Int) {p q r : Mi.S} : eOr (eOp fIsN (eVar 1) (eLit .non)) (eOp fLe (eVar 1) (eVar 0)) [.val (.int i), .val a, r] = .ok (.val (.bl (lo a i)), [.val (.int i), .val a, r]) := by
  cases a with
  | int a => simp only [lo, bnd_ap, of_ap, seq_ap, asg_ap, ret_ap, retN_ap, sif_ap, expr_ap, par_ap, par3_ap, asgT_ap, nil_ap, brk_ap, cnt_ap, give_val, give_own, give_ali, take_val, take_own, take_ali, ta_nil, ta_cons, pk_val, pk_own, pk_ali, pa_nil', pa_cons', var_ap, lit_ap, op_ap, un_ap, cb_ap, lc_ap, ln_ap, tup_ap, lst_ap, cv_ap, ck_ap, cl_ap, and_ap, or_ap, not_ap, eif_ap, bval_ap, bnot_ap, band_ap, bor_ap, gnam_ap, gtup_ap, gend_ap, gcons_ap, rng_ap, for_ap, loop_nil, setIx_ap, run_ap, M.ret, unpk, asB, back, retS, fit_of, sInt, sBl, fIx, fLen, fAbs, fInt, fList, Mi.isNon, fIsN, fNotN, fCmp, fLt, fLe, fGt, fGe, fAdd, fSub, fNeg, O.frz, Mi.pick, List.getElem?_cons_zero, List.getElem?_cons_succ, List.getElem?_nil, List.set_cons_zero, List.set_cons_succ, List.map_cons, List.map_nil, List.length_cons, List.length_nil, List.replicate_succ, List.replicate_zero, List.cons_append, List.nil_append, Option.map_some, Option.map_none, if_true, if_false, Bool.false_eq_true, Bool.not_true, Bool.not_false, decide_true, decide_false, reduceIte, ne_eq, not_true_eq_false, not_false_eq_true, List.getD_cons_zero, List.getD_cons_succ, Nat.reduceAdd, Nat.reduceSub, Nat.reduceLeDiff, Nat.reduceEqDiff, atI_0, atI_1, atI_2, lam_ap, append_ap, make_ap, setF_ap, own_ap, meth_ap, methD_ap, norm_val, norm_own, norm_ali, onMethD_ap, onMeth_val, onMeth_ali, lz_ap, raise_ap, try_ap, thunk_raw, thunk_exc, byes_ap, Mi.insAt, lendTo, hand, eChain, Mi.isL, onL, okFl]
  | non => simp only [lo, bnd_ap, of_ap, seq_ap, asg_ap, ret_ap, retN_ap, sif_ap, expr_ap, par_ap, par3_ap, asgT_ap, nil_ap, brk_ap, cnt_ap, give_val, give_own, give_ali, take_val, take_own, take_ali, ta_nil, ta_cons, pk_val, pk_own, pk_ali, pa_nil', pa_cons', var_ap, lit_ap, op_ap, un_ap, cb_ap, lc_ap, ln_ap, tup_ap, lst_ap, cv_ap, ck_ap, cl_ap, and_ap, or_ap, not_ap, eif_ap, bval_ap, bnot_ap, band_ap, bor_ap, gnam_ap, gtup_ap, gend_ap, gcons_ap, rng_ap, for_ap, loop_nil, setIx_ap, run_ap, M.ret, unpk, asB, back, retS, fit_of, sInt, sBl, fIx, fLen, fAbs, fInt, fList, Mi.isNon, fIsN, fNotN, fCmp, fLt, fLe, fGt, fGe, fAdd, fSub, fNeg, O.frz, Mi.pick, List.getElem?_cons_zero, List.getElem?_cons_succ, List.getElem?_nil, List.set_cons_zero, List.set_cons_succ, List.map_cons, List.map_nil, List.length_cons, List.length_nil, List.replicate_succ, List.replicate_zero, List.cons_append, List.nil_append, Option.map_some, Option.map_none, if_true, if_false, Bool.false_eq_true, Bool.not_true, Bool.not_false, decide_true, decide_false, reduceIte, ne_eq, not_true_eq_false, not_false_eq_true, List.getD_cons_zero, List.getD_cons_succ, Nat.reduceAdd, Nat.reduceSub, Nat.reduceLeDiff, Nat.reduceEqDiff, atI_0, atI_1, atI_2, lam_ap, append_ap, make_ap, setF_ap, own_ap, meth_ap, methD_ap, norm_val, norm_own, norm_ali, onMethD_ap, onMeth_val, onMeth_ali, lz_ap, raise_ap, try_ap, thunk_raw, thunk_exc, byes_ap, Mi.insAt, lendTo, hand, eChain, Mi.isL, onL, okFl]
  | _ => cases ha
theorem within_i {a b : D} (i : Int) (ha : bd a = true) (hb : bd b = true) : f_is_within [.val (.int i), .val a, .val b] = .ok (.val (.bl (lo a i && hi b i)), [.non, .non, .non]) := by
  have e1 := int_any (d := .int i) rfl
  have i1 : isI (.int i) = true := rfl
  rw [i1] at e1
  cases a with
  | int a =>
    cases b with
    | int b =>
      by_cases h : a ≤ i
      · simp only [f_is_within, m_is_within, e1, h, lo, hi, bnd_ap, of_ap, seq_ap, asg_ap, ret_ap, retN_ap, sif_ap, expr_ap, par_ap, par3_ap, asgT_ap, nil_ap, brk_ap, cnt_ap, give_val, give_own, give_ali, take_val, take_own, take_ali, ta_nil, ta_cons, pk_val, pk_own, pk_ali, pa_nil', pa_cons', var_ap, lit_ap, op_ap, un_ap, cb_ap, lc_ap, ln_ap, tup_ap, lst_ap, cv_ap, ck_ap, cl_ap, and_ap, or_ap, not_ap, eif_ap, bval_ap, bnot_ap, band_ap, bor_ap, gnam_ap, gtup_ap, gend_ap, gcons_ap, rng_ap, for_ap, loop_nil, setIx_ap, run_ap, M.ret, unpk, asB, back, retS, fit_of, sInt, sBl, fIx, fLen, fAbs, fInt, fList, Mi.isNon, fIsN, fNotN, fCmp, fLt, fLe, fGt, fGe, fAdd, fSub, fNeg, O.frz, Mi.pick, List.getElem?_cons_zero, List.getElem?_cons_succ, List.getElem?_nil, List.set_cons_zero, List.set_cons_succ, List.map_cons, List.map_nil, List.length_cons, List.length_nil, List.replicate_succ, List.replicate_zero, List.cons_append, List.nil_append, Option.map_some, Option.map_none, if_true, if_false, Bool.false_eq_true, Bool.not_true, Bool.not_false, decide_true, decide_false, reduceIte, ne_eq, not_true_eq_false, not_false_eq_true, List.getD_cons_zero, List.getD_cons_succ, Nat.reduceAdd, Nat.reduceSub, Nat.reduceLeDiff, Nat.reduceEqDiff, atI_0, atI_1, atI_2, lam_ap, append_ap, make_ap, setF_ap, own_ap, meth_ap, methD_ap, norm_val, norm_own, norm_ali, onMethD_ap, onMeth_val, onMeth_ali, lz_ap, raise_ap, try_ap, thunk_raw, thunk_exc, byes_ap, Mi.insAt, lendTo, hand, eChain, Mi.isL, onL, okFl, Bool.true_and]
      · simp only [f_is_within, m_is_within, e1, h, lo, hi, bnd_ap, of_ap, seq_ap, asg_ap, ret_ap, retN_ap, sif_ap, expr_ap, par_ap, par3_ap, asgT_ap, nil_ap, brk_ap, cnt_ap, give_val, give_own, give_ali, take_val, take_own, take_ali, ta_nil, ta_cons, pk_val, pk_own, pk_ali, pa_nil', pa_cons', var_ap, lit_ap, op_ap, un_ap, cb_ap, lc_ap, ln_ap, tup_ap, lst_ap, cv_ap, ck_ap, cl_ap, and_ap, or_ap, not_ap, eif_ap, bval_ap, bnot_ap, band_ap, bor_ap, gnam_ap, gtup_ap, gend_ap, gcons_ap, rng_ap, for_ap, loop_nil, setIx_ap, run_ap, M.ret, unpk, asB, back, retS, fit_of, sInt, sBl, fIx, fLen, fAbs, fInt, fList, Mi.isNon, fIsN, fNotN, fCmp, fLt, fLe, fGt, fGe, fAdd, fSub, fNeg, O.frz, Mi.pick, List.getElem?_cons_zero, List.getElem?_cons_succ, List.getElem?_nil, List.set_cons_zero, List.set_cons_succ, List.map_cons, List.map_nil, List.length_cons, List.length_nil, List.replicate_succ, List.replicate_zero, List.cons_append, List.nil_append, Option.map_some, Option.map_none, if_true, if_false, Bool.false_eq_true, Bool.not_true, Bool.not_false, decide_true, decide_false, reduceIte, ne_eq, not_true_eq_false, not_false_eq_true, List.getD_cons_zero, List.getD_cons_succ, Nat.reduceAdd, Nat.reduceSub, Nat.reduceLeDiff, Nat.reduceEqDiff, atI_0, atI_1, atI_2, lam_ap, append_ap, make_ap, setF_ap, own_ap, meth_ap, methD_ap, norm_val, norm_own, norm_ali, onMethD_ap, onMeth_val, onMeth_ali, lz_ap, raise_ap, try_ap, thunk_raw, thunk_exc, byes_ap, Mi.insAt, lendTo, hand, eChain, Mi.isL, onL, okFl, Bool.false_and]
    | non =>
      by_cases h : a ≤ i
      · simp only [f_is_within, m_is_within, e1, h, lo, hi, bnd_ap, of_ap, seq_ap, asg_ap, ret_ap, retN_ap, sif_ap, expr_ap, par_ap, par3_ap, asgT_ap, nil_ap, brk_ap, cnt_ap, give_val, give_own, give_ali, take_val, take_own, take_ali, ta_nil, ta_cons, pk_val, pk_own, pk_ali, pa_nil', pa_cons', var_ap, lit_ap, op_ap, un_ap, cb_ap, lc_ap, ln_ap, tup_ap, lst_ap, cv_ap, ck_ap, cl_ap, and_ap, or_ap, not_ap, eif_ap, bval_ap, bnot_ap, band_ap, bor_ap, gnam_ap, gtup_ap, gend_ap, gcons_ap, rng_ap, for_ap, loop_nil, setIx_ap, run_ap, M.ret, unpk, asB, back, retS, fit_of, sInt, sBl, fIx, fLen, fAbs, fInt, fList, Mi.isNon, fIsN, fNotN, fCmp, fLt, fLe, fGt, fGe, fAdd, fSub, fNeg, O.frz, Mi.pick, List.getElem?_cons_zero, List.getElem?_cons_succ, List.getElem?_nil, List.set_cons_zero, List.set_cons_succ, List.map_cons, List.map_nil, List.length_cons, List.length_nil, List.replicate_succ, List.replicate_zero, List.cons_append, List.nil_append, Option.map_some, Option.map_none, if_true, if_false, Bool.false_eq_true, Bool.not_true, Bool.not_false, decide_true, decide_false, reduceIte, ne_eq, not_true_eq_false, not_false_eq_true, List.getD_cons_zero, List.getD_cons_succ, Nat.reduceAdd, Nat.reduceSub, Nat.reduceLeDiff, Nat.reduceEqDiff, atI_0, atI_1, atI_2, lam_ap, append_ap, make_ap, setF_ap, own_ap, meth_ap, methD_ap, norm_val, norm_own, norm_ali, onMethD_ap, onMeth_val, onMeth_ali, lz_ap, raise_ap, try_ap, thunk_raw, thunk_exc, byes_ap, Mi.insAt, lendTo, hand, eChain, Mi.isL, onL, okFl, Bool.true_and]
      · simp only [f_is_within, m_is_within, e1, h, lo, hi, bnd_ap, of_ap, seq_ap, asg_ap, ret_ap, retN_ap, sif_ap, expr_ap, par_ap, par3_ap, asgT_ap, nil_ap, brk_ap, cnt_ap, give_val, give_own, give_ali, take_val, take_own, take_ali, ta_nil, ta_cons, pk_val, pk_own, pk_ali, pa_nil', pa_cons', var_ap, lit_ap, op_ap, un_ap, cb_ap, lc_ap, ln_ap, tup_ap, lst_ap, cv_ap, ck_ap, cl_ap, and_ap, or_ap, not_ap, eif_ap, bval_ap, bnot_ap, band_ap, bor_ap, gnam_ap, gtup_ap, gend_ap, gcons_ap, rng_ap, for_ap, loop_nil, setIx_ap, run_ap, M.ret, unpk, asB, back, retS, fit_of, sInt, sBl, fIx, fLen, fAbs, fInt, fList, Mi.isNon, fIsN, fNotN, fCmp, fLt, fLe, fGt, fGe, fAdd, fSub, fNeg, O.frz, Mi.pick, List.getElem?_cons_zero, List.getElem?_cons_succ, List.getElem?_nil, List.set_cons_zero, List.set_cons_succ, List.map_cons, List.map_nil, List.length_cons, List.length_nil, List.replicate_succ, List.replicate_zero, List.cons_append, List.nil_append, Option.map_some, Option.map_none, if_true, if_false, Bool.false_eq_true, Bool.not_true, Bool.not_false, decide_true, decide_false, reduceIte, ne_eq, not_true_eq_false, not_false_eq_true, List.getD_cons_zero, List.getD_cons_succ, Nat.reduceAdd, Nat.reduceSub, Nat.reduceLeDiff, Nat.reduceEqDiff, atI_0, atI_1, atI_2, lam_ap, append_ap, make_ap, setF_ap, own_ap, meth_ap, methD_ap, norm_val, norm_own, norm_ali, onMethD_ap, onMeth_val, onMeth_ali, lz_ap, raise_ap, try_ap, thunk_raw, thunk_exc, byes_ap, Mi.insAt, lendTo, hand, eChain, Mi.isL, onL, okFl, Bool.false_and]
    | _ => cases hb
  | non =>
    cases b with
    | int b => simp only [f_is_within, m_is_within, e1, lo, hi, bnd_ap, of_ap, seq_ap, asg_ap, ret_ap, retN_ap, sif_ap, expr_ap, par_ap, par3_ap, asgT_ap, nil_ap, brk_ap, cnt_ap, give_val, give_own, give_ali, take_val, take_own, take_ali, ta_nil, ta_cons, pk_val, pk_own, pk_ali, pa_nil', pa_cons', var_ap, lit_ap, op_ap, un_ap, cb_ap, lc_ap, ln_ap, tup_ap, lst_ap, cv_ap, ck_ap, cl_ap, and_ap, or_ap, not_ap, eif_ap, bval_ap, bnot_ap, band_ap, bor_ap, gnam_ap, gtup_ap, gend_ap, gcons_ap, rng_ap, for_ap, loop_nil, setIx_ap, run_ap, M.ret, unpk, asB, back, retS, fit_of, sInt, sBl, fIx, fLen, fAbs, fInt, fList, Mi.isNon, fIsN, fNotN, fCmp, fLt, fLe, fGt, fGe, fAdd, fSub, fNeg, O.frz, Mi.pick, List.getElem?_cons_zero, List.getElem?_cons_succ, List.getElem?_nil, List.set_cons_zero, List.set_cons_succ, List.map_cons, List.map_nil, List.length_cons, List.length_nil, List.replicate_succ, List.replicate_zero, List.cons_append, List.nil_append, Option.map_some, Option.map_none, if_true, if_false, Bool.false_eq_true, Bool.not_true, Bool.not_false, decide_true, decide_false, reduceIte, ne_eq, not_true_eq_false, not_false_eq_true, List.getD_cons_zero, List.getD_cons_succ, Nat.reduceAdd, Nat.reduceSub, Nat.reduceLeDiff, Nat.reduceEqDiff, atI_0, atI_1, atI_2, lam_ap, append_ap, make_ap, setF_ap, own_ap, meth_ap, methD_ap, norm_val, norm_own, norm_ali, onMethD_ap, onMeth_val, onMeth_ali, lz_ap, raise_ap, try_ap, thunk_raw, thunk_exc, byes_ap, Mi.insAt, lendTo, hand, eChain, Mi.isL, onL, okFl, Bool.true_and]
    | non => simp only [f_is_within, m_is_within, e1, lo, hi, bnd_ap, of_ap, seq_ap, asg_ap, ret_ap, retN_ap, sif_ap, expr_ap, par_ap, par3_ap, asgT_ap, nil_ap, brk_ap, cnt_ap, give_val, give_own, give_ali, take_val, take_own, take_ali, ta_nil, ta_cons, pk_val, pk_own, pk_ali, pa_nil', pa_cons', var_ap, lit_ap, op_ap, un_ap, cb_ap, lc_ap, ln_ap, tup_ap, lst_ap, cv_ap, ck_ap, cl_ap, and_ap, or_ap, not_ap, eif_ap, bval_ap, bnot_ap, band_ap, bor_ap, gnam_ap, gtup_ap, gend_ap, gcons_ap, rng_ap, for_ap, loop_nil, setIx_ap, run_ap, M.ret, unpk, asB, back, retS, fit_of, sInt, sBl, fIx, fLen, fAbs, fInt, fList, Mi.isNon, fIsN, fNotN, fCmp, fLt, fLe, fGt, fGe, fAdd, fSub, fNeg, O.frz, Mi.pick, List.getElem?_cons_zero, List.getElem?_cons_succ, List.getElem?_nil, List.set_cons_zero, List.set_cons_succ, List.map_cons, List.map_nil, List.length_cons, List.length_nil, List.replicate_succ, List.replicate_zero, List.cons_append, List.nil_append, Option.map_some, Option.map_none, if_true, if_false, Bool.false_eq_true, Bool.not_true, Bool.not_false, decide_true, decide_false, reduceIte, ne_eq, not_true_eq_false, not_false_eq_true, List.getD_cons_zero, List.getD_cons_succ, Nat.reduceAdd, Nat.reduceSub, Nat.reduceLeDiff, Nat.reduceEqDiff, atI_0, atI_1, atI_2, lam_ap, append_ap, make_ap, setF_ap, own_ap, meth_ap, methD_ap, norm_val, norm_own, norm_ali, onMethD_ap, onMeth_val, onMeth_ali, lz_ap, raise_ap, try_ap, thunk_raw, thunk_exc, byes_ap, Mi.insAt, lendTo, hand, eChain, Mi.isL, onL, okFl, Bool.true_and]
    | _ => cases hb
  | _ => cases ha
theorem within_n {d a b : D} (h : tgd d = true) (hn : isI d = false) : f_is_within [.val d, .val a, .val b] = .ok (.val (.bl false), [.non, .non, .non]) := by
  have e := int_any h
  rw [hn] at e
  simp only [f_is_within, m_is_within, e, bnd_ap, of_ap, seq_ap, asg_ap, ret_ap, retN_ap, sif_ap, expr_ap, par_ap, par3_ap, asgT_ap, nil_ap, brk_ap, cnt_ap, give_val, give_own, give_ali, take_val, take_own, take_ali, ta_nil, ta_cons, pk_val, pk_own, pk_ali, pa_nil', pa_cons', var_ap, lit_ap, op_ap, un_ap, cb_ap, lc_ap, ln_ap, tup_ap, lst_ap, cv_ap, ck_ap, cl_ap, and_ap, or_ap, not_ap, eif_ap, bval_ap, bnot_ap, band_ap, bor_ap, gnam_ap, gtup_ap, gend_ap, gcons_ap, rng_ap, for_ap, loop_nil, setIx_ap, run_ap, M.ret, unpk, asB, back, retS, fit_of, sInt, sBl, fIx, fLen, fAbs, fInt, fList, Mi.isNon, fIsN, fNotN, fCmp, fLt, fLe, fGt, fGe, fAdd, fSub, fNeg, O.frz, Mi.pick, List.getElem?_cons_zero, List.getElem?_cons_succ, List.getElem?_nil, List.set_cons_zero, List.set_cons_succ, List.map_cons, List.map_nil, List.length_cons, List.length_nil, List.replicate_succ, List.replicate_zero, List.cons_append, List.nil_append, Option.map_some, Option.map_none, if_true, if_false, Bool.false_eq_true, Bool.not_true, Bool.not_false, decide_true, decide_false, reduceIte, ne_eq, not_true_eq_false, not_false_eq_true, List.getD_cons_zero, List.getD_cons_succ, Nat.reduceAdd, Nat.reduceSub, Nat.reduceLeDiff, Nat.reduceEqDiff, atI_0, atI_1, atI_2, lam_ap, append_ap, make_ap, setF_ap, own_ap, meth_ap, methD_ap, norm_val, norm_own, norm_ali, onMethD_ap, onMeth_val, onMeth_ali, lz_ap, raise_ap, try_ap, thunk_raw, thunk_exc, byes_ap, Mi.insAt, lendTo, hand, eChain, Mi.isL, onL, okFl]
theorem eq_bl (a b : Bool) : fEq (.bl a) (.bl b) = some (.val (.bl (a == b))) := by cases a <;> cases b <;> rfl
theorem same_ok (a b : Bool) : f__law_same [.val (.bl a), .val (.bl b)] = .ok (.val (.bl (a == b)), [.non, .non]) := by
  have e1 : fIsi isT [.bl a, .ty "bool"] = some (.val (.bl true)) := rfl
  simp only [f__law_same, m__law_same, e1, eq_bl, bnd_ap, of_ap, seq_ap, asg_ap, ret_ap, retN_ap, sif_ap, expr_ap, par_ap, par3_ap, asgT_ap, nil_ap, brk_ap, cnt_ap, give_val, give_own, give_ali, take_val, take_own, take_ali, ta_nil, ta_cons, pk_val, pk_own, pk_ali, pa_nil', pa_cons', var_ap, lit_ap, op_ap, un_ap, cb_ap, lc_ap, ln_ap, tup_ap, lst_ap, cv_ap, ck_ap, cl_ap, and_ap, or_ap, not_ap, eif_ap, bval_ap, bnot_ap, band_ap, bor_ap, gnam_ap, gtup_ap, gend_ap, gcons_ap, rng_ap, for_ap, loop_nil, setIx_ap, run_ap, M.ret, unpk, asB, back, retS, fit_of, sInt, sBl, fIx, fLen, fAbs, fInt, fList, Mi.isNon, fIsN, fNotN, fCmp, fLt, fLe, fGt, fGe, fAdd, fSub, fNeg, O.frz, Mi.pick, List.getElem?_cons_zero, List.getElem?_cons_succ, List.getElem?_nil, List.set_cons_zero, List.set_cons_succ, List.map_cons, List.map_nil, List.length_cons, List.length_nil, List.replicate_succ, List.replicate_zero, List.cons_append, List.nil_append, Option.map_some, Option.map_none, if_true, if_false, Bool.false_eq_true, Bool.not_true, Bool.not_false, decide_true, decide_false, reduceIte, ne_eq, not_true_eq_false, not_false_eq_true, List.getD_cons_zero, List.getD_cons_succ, Nat.reduceAdd, Nat.reduceSub, Nat.reduceLeDiff, Nat.reduceEqDiff, atI_0, atI_1, atI_2, lam_ap, append_ap, make_ap, setF_ap, own_ap, meth_ap, methD_ap, norm_val, norm_own, norm_ali, onMethD_ap, onMeth_val, onMeth_ali, lz_ap, raise_ap, try_ap, thunk_raw, thunk_exc, byes_ap, Mi.insAt, lendTo, hand, eChain, Mi.isL, onL, okFl]
def seqD : D → Option (List D)
  | .lst xs => some xs
  | .tup xs => some xs
  | _ => none
def areI (d : D) : Bool := match seqD d with
  | some xs => xs.all isI
  | none => false
theorem bools_mapI {α : Type} (f : α → Bool) (xs : List α) : bools (xs.map fun x => D.bl (f x)) = some (xs.map f) := by
  induction xs with
  | nil => rfl
  | cons p P ih => simp only [List.map_cons, bools, ih, Option.map_some]
theorem all_mapI {α : Type} (f : α → Bool) (xs : List α) : fAll [.lst (xs.map fun x => D.bl (f x))] = some (.val (.bl (xs.all f))) := by
  simp only [fAll, bools_mapI, Option.map_some, List.all_map]
  rfl
theorem are_ok {d : D} (h : tgd d = true) (hx : ∀ xs, seqD d = some xs → xs.length ≤ 1000 ∧ ∀ x ∈ xs, tgd x = true) : f_are_integers [.val d] = .ok (.val (.bl (areI d)), [.non]) := by
  have no : fIsi isT [d, .tup [.ty "list", .ty "tuple"]] = some (.val (.bl false)) → areI d = false → f_are_integers [.val d] = .ok (.val (.bl (areI d)), [.non]) := fun e1 e2 => by
    rw [e2]
    simp only [f_are_integers, m_are_integers, e1, bnd_ap, of_ap, seq_ap, asg_ap, ret_ap, retN_ap, sif_ap, expr_ap, par_ap, par3_ap, asgT_ap, nil_ap, brk_ap, cnt_ap, give_val, give_own, give_ali, take_val, take_own, take_ali, ta_nil, ta_cons, pk_val, pk_own, pk_ali, pa_nil', pa_cons', var_ap, lit_ap, op_ap, un_ap, cb_ap, lc_ap, ln_ap, tup_ap, lst_ap, cv_ap, ck_ap, cl_ap, and_ap, or_ap, not_ap, eif_ap, bval_ap, bnot_ap, band_ap, bor_ap, gnam_ap, gtup_ap, gend_ap, gcons_ap, rng_ap, for_ap, loop_nil, setIx_ap, run_ap, M.ret, unpk, asB, back, retS, fit_of, sInt, sBl, fIx, fLen, fAbs, fInt, fList, Mi.isNon, fIsN, fNotN, fCmp, fLt, fLe, fGt, fGe, fAdd, fSub, fNeg, O.frz, Mi.pick, List.getElem?_cons_zero, List.getElem?_cons_succ, List.getElem?_nil, List.set_cons_zero, List.set_cons_succ, List.map_cons, List.map_nil, List.length_cons, List.length_nil, List.replicate_succ, List.replicate_zero, List.cons_append, List.nil_append, Option.map_some, Option.map_none, if_true, if_false, Bool.false_eq_true, Bool.not_true, Bool.not_false, decide_true, decide_false, reduceIte, ne_eq, not_true_eq_false, not_false_eq_true, List.getD_cons_zero, List.getD_cons_succ, Nat.reduceAdd, Nat.reduceSub, Nat.reduceLeDiff, Nat.reduceEqDiff, atI_0, atI_1, atI_2, lam_ap, append_ap, make_ap, setF_ap, own_ap, meth_ap, methD_ap, norm_val, norm_own, norm_ali, onMethD_ap, onMeth_val, onMeth_ali, lz_ap, raise_ap, try_ap, thunk_raw, thunk_exc, byes_ap, Mi.insAt, lendTo, hand, eChain, Mi.isL, onL, okFl]
  have yes : ∀ xs, seqD d = some xs → items d = some xs → fIsi isT [d, .tup [.ty "list", .ty "tuple"]] = some (.val (.bl true)) → f_are_integers [.val d] = .ok (.val (.bl (areI d)), [.non]) := fun xs e0 e2 e1 => by
    obtain ⟨hl, ht⟩ := hx xs e0
    have e3 : areI d = xs.all isI := by unfold areI; rw [e0]
    have c := ecompM (own := [1]) (mi := iSeq (eVar 0)) (g := gNam 1) (me := eCallV f_is_integer (lCons (eVar 1) (lNil))) xs (fun x => x) (fun x => .bl (isI x)) (τ := [.val d, .non]) (τ1 := [.val d, .non])
      (by rw [List.map_id']; exact iseq_val d (var_v rfl) e2) rfl (fun x hx => ⟨[.val d, .val x], [.val d, .val x], rfl, by simp only [int_any (ht x hx), bnd_ap, of_ap, seq_ap, asg_ap, ret_ap, retN_ap, sif_ap, expr_ap, par_ap, par3_ap, asgT_ap, nil_ap, brk_ap, cnt_ap, give_val, give_own, give_ali, take_val, take_own, take_ali, ta_nil, ta_cons, pk_val, pk_own, pk_ali, pa_nil', pa_cons', var_ap, lit_ap, op_ap, un_ap, cb_ap, lc_ap, ln_ap, tup_ap, lst_ap, cv_ap, ck_ap, cl_ap, and_ap, or_ap, not_ap, eif_ap, bval_ap, bnot_ap, band_ap, bor_ap, gnam_ap, gtup_ap, gend_ap, gcons_ap, rng_ap, for_ap, loop_nil, setIx_ap, run_ap, M.ret, unpk, asB, back, retS, fit_of, sInt, sBl, fIx, fLen, fAbs, fInt, fList, Mi.isNon, fIsN, fNotN, fCmp, fLt, fLe, fGt, fGe, fAdd, fSub, fNeg, O.frz, Mi.pick, List.getElem?_cons_zero, List.getElem?_cons_succ, List.getElem?_nil, List.set_cons_zero, List.set_cons_succ, List.map_cons, List.map_nil, List.length_cons, List.length_nil, List.replicate_succ, List.replicate_zero, List.cons_append, List.nil_append, Option.map_some, Option.map_none, if_true, if_false, Bool.false_eq_true, Bool.not_true, Bool.not_false, decide_true, decide_false, reduceIte, ne_eq, not_true_eq_false, not_false_eq_true, List.getD_cons_zero, List.getD_cons_succ, Nat.reduceAdd, Nat.reduceSub, Nat.reduceLeDiff, Nat.reduceEqDiff, atI_0, atI_1, atI_2, lam_ap, append_ap, make_ap, setF_ap, own_ap, meth_ap, methD_ap, norm_val, norm_own, norm_ali, onMethD_ap, onMeth_val, onMeth_ali, lz_ap, raise_ap, try_ap, thunk_raw, thunk_exc, byes_ap, Mi.insAt, lendTo, hand, eChain, Mi.isL, onL, okFl], rfl⟩) hl rfl
    rw [e3]
    simp only [f_are_integers, m_are_integers, e1, c, all_mapI, bnd_ap, of_ap, seq_ap, asg_ap, ret_ap, retN_ap, sif_ap, expr_ap, par_ap, par3_ap, asgT_ap, nil_ap, brk_ap, cnt_ap, give_val, give_own, give_ali, take_val, take_own, take_ali, ta_nil, ta_cons, pk_val, pk_own, pk_ali, pa_nil', pa_cons', var_ap, lit_ap, op_ap, un_ap, cb_ap, lc_ap, ln_ap, tup_ap, lst_ap, cv_ap, ck_ap, cl_ap, and_ap, or_ap, not_ap, eif_ap, bval_ap, bnot_ap, band_ap, bor_ap, gnam_ap, gtup_ap, gend_ap, gcons_ap, rng_ap, for_ap, loop_nil, setIx_ap, run_ap, M.ret, unpk, asB, back, retS, fit_of, sInt, sBl, fIx, fLen, fAbs, fInt, fList, Mi.isNon, fIsN, fNotN, fCmp, fLt, fLe, fGt, fGe, fAdd, fSub, fNeg, O.frz, Mi.pick, List.getElem?_cons_zero, List.getElem?_cons_succ, List.getElem?_nil, List.set_cons_zero, List.set_cons_succ, List.map_cons, List.map_nil, List.length_cons, List.length_nil, List.replicate_succ, List.replicate_zero, List.cons_append, List.nil_append, Option.map_some, Option.map_none, if_true, if_false, Bool.false_eq_true, Bool.not_true, Bool.not_false, decide_true, decide_false, reduceIte, ne_eq, not_true_eq_false, not_false_eq_true, List.getD_cons_zero, List.getD_cons_succ, Nat.reduceAdd, Nat.reduceSub, Nat.reduceLeDiff, Nat.reduceEqDiff, atI_0, atI_1, atI_2, lam_ap, append_ap, make_ap, setF_ap, own_ap, meth_ap, methD_ap, norm_val, norm_own, norm_ali, onMethD_ap, onMeth_val, onMeth_ali, lz_ap, raise_ap, try_ap, thunk_raw, thunk_exc, byes_ap, Mi.insAt, lendTo, hand, eChain, Mi.isL, onL, okFl]
  cases d with
  | non => exact no rfl rfl
  | bl b => exact no rfl rfl
  | int i => exact no rfl rfl
  | str x => exact no rfl rfl
  | lst xs => exact yes xs rfl rfl rfl
  | tup xs => exact yes xs rfl rfl rfl
  | dic kvs => exact no rfl rfl
  | _ => cases h
/-! #### drawn integers, drawn values -/
theorem p28 : fPow (.int 10) (.int 28) = some (.val (.int (10 ^ 28))) := by
  rw [pow_ok (by decide) (by decide) (by decide)]
  rfl
theorem p27 : fPow (.int 10) (.int 27) = some (.val (.int (10 ^ 27))) := by
  rw [pow_ok (by decide) (by decide) (by decide)]
  rfl
theorem integer_v {o : O} {k : Nat} (h : VS o k) (hk : k < 900000) : ∃ (i : Int) (o' : O), f__law_integer [.lent 0 o] = .ok (.val (.int i), [.lent 0 o']) ∧ i.natAbs < 2 ^ 100 ∧ VS o' (k + 3) := by
  obtain ⟨a, o1, e1, a1, b1, v1⟩ := dip_v (many := 60) h (by omega) (by decide) (by decide)
  obtain ⟨b, o2, e2, a2, b2, v2⟩ := dip_v (many := 10 ^ 28) v1 (by omega) (by decide +kernel) (by decide +kernel)
  have w := mul_l (i := 5) (j := 10 ^ 27) (by decide)
  obtain ⟨x, o3, e3, m3, v3⟩ := pick_v (xs := [.int (a - 30), .int (a - 30), .int (b - 5 * 10 ^ 27), .int 0, .int 1, .int (-1)]) v2 (by omega) (by simp) (by simp)
  obtain ⟨X, hX⟩ : ∃ X : Int, X = 10 ^ 28 := ⟨_, rfl⟩
  have hx : ∃ i : Int, x = .int i ∧ i.natAbs < 2 ^ 100 := by
    simp only [List.mem_cons, List.not_mem_nil, or_false] at m3
    rcases m3 with rfl | rfl | rfl | rfl | rfl | rfl
    · exact ⟨_, rfl, by omega⟩
    · exact ⟨_, rfl, by omega⟩
    · exact ⟨_, rfl, by omega⟩
    · exact ⟨_, rfl, by decide⟩
    · exact ⟨_, rfl, by decide⟩
    · exact ⟨_, rfl, by decide⟩
  obtain ⟨i, rfl, hi⟩ := hx
  refine ⟨i, o3, ?_, hi, v3⟩
  simp only [f__law_integer, m__law_integer, lendTo, hand, e1, p28, e2, p27, w, e3, bnd_ap, of_ap, seq_ap, asg_ap, ret_ap, retN_ap, sif_ap, expr_ap, par_ap, par3_ap, asgT_ap, nil_ap, brk_ap, cnt_ap, give_val, give_own, give_ali, take_val, take_own, take_ali, ta_nil, ta_cons, pk_val, pk_own, pk_ali, pa_nil', pa_cons', var_ap, lit_ap, op_ap, un_ap, cb_ap, lc_ap, ln_ap, tup_ap, lst_ap, cv_ap, ck_ap, cl_ap, and_ap, or_ap, not_ap, eif_ap, bval_ap, bnot_ap, band_ap, bor_ap, gnam_ap, gtup_ap, gend_ap, gcons_ap, rng_ap, for_ap, loop_nil, setIx_ap, run_ap, M.ret, unpk, asB, back, retS, fit_of, sInt, sBl, fIx, fLen, fAbs, fInt, fList, Mi.isNon, fIsN, fNotN, fCmp, fLt, fLe, fGt, fGe, fAdd, fSub, fNeg, O.frz, Mi.pick, List.getElem?_cons_zero, List.getElem?_cons_succ, List.getElem?_nil, List.set_cons_zero, List.set_cons_succ, List.map_cons, List.map_nil, List.length_cons, List.length_nil, List.replicate_succ, List.replicate_zero, List.cons_append, List.nil_append, Option.map_some, Option.map_none, if_true, if_false, Bool.false_eq_true, Bool.not_true, Bool.not_false, decide_true, decide_false, reduceIte, ne_eq, not_true_eq_false, not_false_eq_true, List.getD_cons_zero, List.getD_cons_succ, Nat.reduceAdd, Nat.reduceSub, Nat.reduceLeDiff, Nat.reduceEqDiff, atI_0, atI_1, atI_2]
def OddV (d : D) : Prop := ∃ i : Int, i.natAbs < 2 ^ 100 ∧ d ∈ [D.non, .bl true, .bl false, .str (toString i), .str "", .lst [.int i], .tup [.int i], .dic [], .dic [(.inr "a", .int i)], .lst [.int i, .bl true], .tup [.non], .lst [.lst [.int i]]]
theorem value_v {o : O} {k : Nat} (h : VS o k) (hk : k < 900000) : ∃ (d : D) (o' : O), f__law_value [.lent 0 o] = .ok (.val d, [.lent 0 o']) ∧ OddV d ∧ VS o' (k + 4) := by
  obtain ⟨i, o1, e1, b1, v1⟩ := integer_v h hk
  obtain ⟨x, o2, e2, m2, v2⟩ := pick_v (xs := [D.non, .bl true, .bl false, .str (toString i), .str "", .lst [.int i], .tup [.int i], .dic [], .dic [(.inr "a", .int i)], .lst [.int i, .bl true], .tup [.non], .lst [.lst [.int i]]]) v1 (by omega) (by simp) (by simp)
  refine ⟨x, o2, ?_, ⟨i, b1, m2⟩, v2⟩
  have hz : i.natAbs.log2 < 1920 := Nat.lt_of_lt_of_le (log_lt (by decide) b1) (by decide)
  simp only [f__law_value, m__law_value, lendTo, hand, e1, fStr, hz, eDicN, e2, bnd_ap, of_ap, seq_ap, asg_ap, ret_ap, retN_ap, sif_ap, expr_ap, par_ap, par3_ap, asgT_ap, nil_ap, brk_ap, cnt_ap, give_val, give_own, give_ali, take_val, take_own, take_ali, ta_nil, ta_cons, pk_val, pk_own, pk_ali, pa_nil', pa_cons', var_ap, lit_ap, op_ap, un_ap, cb_ap, lc_ap, ln_ap, tup_ap, lst_ap, cv_ap, ck_ap, cl_ap, and_ap, or_ap, not_ap, eif_ap, bval_ap, bnot_ap, band_ap, bor_ap, gnam_ap, gtup_ap, gend_ap, gcons_ap, rng_ap, for_ap, loop_nil, setIx_ap, run_ap, M.ret, unpk, asB, back, retS, fit_of, sInt, sBl, fIx, fLen, fAbs, fInt, fList, Mi.isNon, fIsN, fNotN, fCmp, fLt, fLe, fGt, fGe, fAdd, fSub, fNeg, O.frz, Mi.pick, List.getElem?_cons_zero, List.getElem?_cons_succ, List.getElem?_nil, List.set_cons_zero, List.set_cons_succ, List.map_cons, List.map_nil, List.length_cons, List.length_nil, List.replicate_succ, List.replicate_zero, List.cons_append, List.nil_append, Option.map_some, Option.map_none, if_true, if_false, Bool.false_eq_true, Bool.not_true, Bool.not_false, decide_true, decide_false, reduceIte, ne_eq, not_true_eq_false, not_false_eq_true, List.getD_cons_zero, List.getD_cons_succ, Nat.reduceAdd, Nat.reduceSub, Nat.reduceLeDiff, Nat.reduceEqDiff, atI_0, atI_1, atI_2]
theorem odd_t {d : D} (h : OddV d) : tgd d = true ∧ isI d = false := by
  obtain ⟨i, _, m⟩ := h
  simp only [List.mem_cons, List.not_mem_nil, or_false] at m
  rcases m with rfl | rfl | rfl | rfl | rfl | rfl | rfl | rfl | rfl | rfl | rfl | rfl <;> exact ⟨rfl, rfl⟩
end K01

namespace K01
open PySem PySem.Spec PyProof.Rows L2 Mi
/-! #### integers right -/
noncomputable def inB : M Fl := (sSeq (sAsg 7 (eAnd (eOr (eOp fIsN (eVar 5) (eLit .non)) (eOp fLe (eVar 5) (eVar 1))) (eOr (eOp fIsN (eVar 6) (eLit .non)) (eOp fLe (eVar 1) (eVar 6))))) (sIf (bOr (bNot (bVal (eCallV f__law_same (lCons (eCallV f_is_within (lCons (eVar 1) (lCons (eVar 5) (lCons (eVar 6) (lNil))))) (lCons (eVar 7) (lNil)))))) (bNot (bVal (eCallV f__law_same (lCons (eCallK [2, 1, 0] 3 f_is_within (lCons (eVar 6) (lCons (eVar 5) (lCons (eVar 1) (lNil))))) (lCons (eVar 7) (lNil))))))) (sRet (eLit (.bl false))) (sNil)))
theorem lo_e {a : D} {i : Int} (ha : bd a = true) {τ : List Mi.S} (h5 : τ[5]? = some (.val a)) (h1 : τ[1]? = some (.val (.int i))) : eOr (eOp fIsN (eVar 5) (eLit .non)) (eOp fLe (eVar 5) (eVar 1)) τ = .ok (.val (.bl (lo a i)), τ) := by
  cases a with
  | int a => simp only [or_ap, op_ap, bnd_ap, var_ap, h5, h1, lit_ap, pk_val, of_ap, fIsN, Mi.isNon, sBl, asB, fLe, fCmp, lo, if_true, if_false, Bool.false_eq_true, M.ret]
  | non => simp only [or_ap, op_ap, bnd_ap, var_ap, h5, h1, lit_ap, pk_val, of_ap, fIsN, Mi.isNon, sBl, asB, fLe, fCmp, lo, if_true, if_false, Bool.false_eq_true, M.ret]
  | _ => cases ha
theorem hi_e {a : D} {i : Int} (ha : bd a = true) {τ : List Mi.S} (h5 : τ[6]? = some (.val a)) (h1 : τ[1]? = some (.val (.int i))) : eOr (eOp fIsN (eVar 6) (eLit .non)) (eOp fLe (eVar 1) (eVar 6)) τ = .ok (.val (.bl (hi a i)), τ) := by
  cases a with
  | int a => simp only [or_ap, op_ap, bnd_ap, var_ap, h5, h1, lit_ap, pk_val, of_ap, fIsN, Mi.isNon, sBl, asB, fLe, fCmp, hi, if_true, if_false, Bool.false_eq_true, M.ret]
  | non => simp only [or_ap, op_ap, bnd_ap, var_ap, h5, h1, lit_ap, pk_val, of_ap, fIsN, Mi.isNon, sBl, asB, fLe, fCmp, hi, if_true, if_false, Bool.false_eq_true, M.ret]
  | _ => cases ha
theorem eand_v {a b : Bool} {ma mb : M Mi.S} {τ : List Mi.S} (h1 : ma τ = .ok (.val (.bl a), τ)) (h2 : mb τ = .ok (.val (.bl b), τ)) : eAnd ma mb τ = .ok (.val (.bl (a && b)), τ) := by
  cases a <;> simp only [and_ap, bnd_ap, h1, h2, of_ap, asB, if_true, if_false, Bool.false_eq_true, M.ret, Bool.true_and, Bool.false_and]
theorem turn_ok {a b : D} {i : Int} (ha : bd a = true) (hb : bd b = true) (x0 x2 x3 x4 x7 x8 x9 x10 : Mi.S) : inB [x0, .val (.int i), x2, x3, x4, .val a, .val b, x7, x8, x9, x10] = .ok (.nx, [x0, .val (.int i), x2, x3, x4, .val a, .val b, .val (.bl (lo a i && hi b i)), x8, x9, x10]) := by
  have w := within_i i ha hb
  unfold inB
  refine at_seq (asg_v (eand_v (lo_e ha rfl rfl) (hi_e hb rfl rfl))) ?_
  simp only [w, same_ok, beq_self_eq_true, bnd_ap, of_ap, seq_ap, asg_ap, ret_ap, retN_ap, sif_ap, expr_ap, par_ap, par3_ap, asgT_ap, nil_ap, brk_ap, cnt_ap, give_val, give_own, give_ali, take_val, take_own, take_ali, ta_nil, ta_cons, pk_val, pk_own, pk_ali, pa_nil', pa_cons', var_ap, lit_ap, op_ap, un_ap, cb_ap, lc_ap, ln_ap, tup_ap, lst_ap, cv_ap, ck_ap, cl_ap, and_ap, or_ap, not_ap, eif_ap, bval_ap, bnot_ap, band_ap, bor_ap, gnam_ap, gtup_ap, gend_ap, gcons_ap, rng_ap, for_ap, loop_nil, setIx_ap, run_ap, M.ret, unpk, asB, back, retS, fit_of, sInt, sBl, fIx, fLen, fAbs, fInt, fList, Mi.isNon, fIsN, fNotN, fCmp, fLt, fLe, fGt, fGe, fAdd, fSub, fNeg, O.frz, Mi.pick, List.getElem?_cons_zero, List.getElem?_cons_succ, List.getElem?_nil, List.set_cons_zero, List.set_cons_succ, List.map_cons, List.map_nil, List.length_cons, List.length_nil, List.replicate_succ, List.replicate_zero, List.cons_append, List.nil_append, Option.map_some, Option.map_none, if_true, if_false, Bool.false_eq_true, Bool.not_true, Bool.not_false, decide_true, decide_false, reduceIte, ne_eq, not_true_eq_false, not_false_eq_true, List.getD_cons_zero, List.getD_cons_succ, Nat.reduceAdd, Nat.reduceSub, Nat.reduceLeDiff, Nat.reduceEqDiff, atI_0, atI_1, atI_2, lam_ap, append_ap, make_ap, setF_ap, own_ap, meth_ap, methD_ap, norm_val, norm_own, norm_ali, onMethD_ap, onMeth_val, onMeth_ali, lz_ap, raise_ap, try_ap, thunk_raw, thunk_exc, byes_ap, Mi.insAt, lendTo, hand, eChain, Mi.isL, onL, okFl]
theorem in_loop {i : Int} (x0 x2 x3 x4 x8 x9 x10 : Mi.S) : ∀ (ps : List (D × D)) (x5 x6 x7 : Mi.S), (∀ p ∈ ps, bd p.1 = true ∧ bd p.2 = true) → ∃ r5 r6 r7, loopM noPin (gTupM 2 (gsCons (gNam 5) (gsCons (gNam 6) (gsEnd)))) inB (ps.map fun p => .tup [p.1, p.2]) [x0, .val (.int i), x2, x3, x4, x5, x6, x7, x8, x9, x10] = .ok (.nx, [x0, .val (.int i), x2, x3, x4, r5, r6, r7, x8, x9, x10])
  | [], x5, x6, x7, _ => ⟨x5, x6, x7, rfl⟩
  | p :: ps, x5, x6, x7, h => by
    obtain ⟨h1, h2⟩ := h p List.mem_cons_self
    obtain ⟨r5, r6, r7, e⟩ := in_loop (i := i) x0 x2 x3 x4 x8 x9 x10 ps (.val p.1) (.val p.2) (.val (.bl (lo p.1 i && hi p.2 i))) fun q hq => h q (List.mem_cons_of_mem _ hq)
    refine ⟨r5, r6, r7, ?_⟩
    have u : unpk 2 (D.tup [p.1, p.2]) = some [p.1, p.2] := rfl
    rw [List.map_cons, loop_cons]
    simp only [gtup_ap, bnd_ap, pk_val, of_ap, u, gcons_ap, gnam_ap, gend_ap, List.set_cons_succ, List.set_cons_zero, M.ret, turn_ok h1 h2, e]
theorem esl_lo {xs : List D} {a : Int} {i j : Nat} {τ : List Mi.S} (h8 : τ[i]? = some (.val (.lst xs))) (h10 : τ[j]? = some (.val (.int a))) : eSl (eVar i) pNone (pSome (eVar j)) τ = .ok (.own (.lst (cut xs none (some a))), τ) := by
  simp only [eSl, pNone, pSome, bnd_ap, var_ap, h8, h10, pk_val, of_ap, asI, fSl, M.ret]
theorem esl_hi {xs : List D} {a : Int} {i j : Nat} {τ : List Mi.S} (h8 : τ[i]? = some (.val (.lst xs))) (h10 : τ[j]? = some (.val (.int a))) : eSl (eVar i) (pSome (eVar j)) pNone τ = .ok (.own (.lst (cut xs (some a) none)), τ) := by
  simp only [eSl, pNone, pSome, bnd_ap, var_ap, h8, h10, pk_val, of_ap, asI, fSl, M.ret]
theorem add_l {A B : List D} (h : A.length + B.length ≤ 1000) : fAdd (.lst A) (.lst B) = some (.own (.lst (A ++ B))) := by
  show (if A.length + B.length ≤ sizeLine then some (Mi.S.own (O.lst (A ++ B))) else none) = _
  rw [if_pos]
  rw [sizeLine_eq]; omega
theorem cut_mem {xs : List D} {a b : Option Int} {x : D} (h : x ∈ cut xs a b) : x ∈ xs := List.mem_of_mem_drop (List.mem_of_mem_take h)
theorem cut_len (xs : List D) (a b : Option Int) : (cut xs a b).length ≤ xs.length := by
  unfold cut
  rw [List.length_take, List.length_drop]
  omega
theorem ints_of : ∀ {ys : List D} {Q : Int → Prop}, (∀ y ∈ ys, ∃ i : Int, y = .int i ∧ Q i) → ∃ ns : List Int, ys = ns.map D.int ∧ ∀ n ∈ ns, Q n
  | [], _, _ => ⟨[], rfl, fun _ h => nomatch h⟩
  | y :: ys, Q, h => by
    obtain ⟨i, rfl, q⟩ := h y List.mem_cons_self
    obtain ⟨ns, rfl, qs⟩ := ints_of (ys := ys) (Q := Q) fun z hz => h z (List.mem_cons_of_mem _ hz)
    refine ⟨i :: ns, rfl, fun z hz => ?_⟩
    rcases List.mem_cons.mp hz with rfl | hz
    · exact q
    · exact qs z hz
theorem rng_ok {v : Int} (h : v < 2 ^ 60) (h0 : 0 ≤ v) : ranged1 [.int v] = some (rangeD 0 v) := by
  have : inR v = true := decide_eq_true ⟨by omega, by omega⟩
  simp only [ranged1, this, if_true]
theorem rng_len (v : Int) : (rangeD 0 v).length = v.toNat := by simp [rangeD]
theorem tgd_ints {ns : List Int} : ∀ x ∈ ns.map D.int, tgd x = true := fun x hx => by
  obtain ⟨i, _, rfl⟩ := List.mem_map.mp hx
  rfl
theorem areI_ints (ns : List Int) : areI (.lst (ns.map .int)) = true ∧ areI (.tup (ns.map .int)) = true := by
  have : (ns.map D.int).all isI = true := by
    rw [List.all_eq_true]
    intro x hx
    obtain ⟨i, _, rfl⟩ := List.mem_map.mp hx
    rfl
  exact ⟨this, this⟩
theorem are_l {ns : List Int} (h : ns.length ≤ 1000) : f_are_integers [.val (.lst (ns.map .int))] = .ok (.val (.bl true), [.non]) := by
  rw [are_ok rfl fun xs e => by cases e; exact ⟨by rw [List.length_map]; exact h, tgd_ints⟩, (areI_ints ns).1]
theorem are_t {ns : List Int} (h : ns.length ≤ 1000) : f_are_integers [.val (.tup (ns.map .int))] = .ok (.val (.bl true), [.non]) := by
  rw [are_ok rfl fun xs e => by cases e; exact ⟨by rw [List.length_map]; exact h, tgd_ints⟩, (areI_ints ns).2]
theorem same_2 {a b : Bool} {ma mb : M Mi.S} {τ τ1 τ2 : List Mi.S} (h1 : ma τ = .ok (.val (.bl a), τ1)) (h2 : mb τ1 = .ok (.val (.bl b), τ2)) : eCallV f__law_same (lCons ma (lCons mb lNil)) τ = .ok (.val (.bl (a == b)), τ2) := by
  simp only [cv_ap, lm_2 h1 h2, bnd_ap, ta_cons, ta_nil, take_val, M.ret, List.map_cons, List.map_nil, same_ok]
theorem same_e {a b : Bool} {ma : M Mi.S} {τ τ1 : List Mi.S} (h1 : ma τ = .ok (.val (.bl a), τ1)) : eCallV f__law_same (lCons ma (lCons (eLit (.bl b)) lNil)) τ = .ok (.val (.bl (a == b)), τ1) := same_2 h1 rfl
theorem integers_right_v {o : O} {k : Nat} (h : VS o k) (hk : k < 800000) : ∃ o', f__law_integers_right [.lent 0 o] = .ok (.val (.bl true), [.lent 0 o']) ∧ VS o' (k + 40) := by
  obtain ⟨i, o1, e1, b1, v1⟩ := integer_v h (by omega)
  obtain ⟨d, o2, e2, od, v2⟩ := value_v v1 (by omega)
  obtain ⟨td, nd⟩ := odd_t od
  have ie := int_any td
  rw [nd] at ie
  have ii := int_any (d := .int i) rfl
  have i1 : isI (.int i) = true := rfl
  rw [i1] at ii
  have wn := within_n (a := .non) (b := .non) td nd
  obtain ⟨l, o3, e3, a3, b3, v3⟩ := dip_v (many := 5) v2 (by omega) (by decide) (by decide)
  obtain ⟨m, o4, e4, a4, b4, v4⟩ := dip_v (many := 5) v3 (by omega) (by decide) (by decide)
  obtain ⟨L, hL⟩ : ∃ L, L = i + l - 2 := ⟨_, rfl⟩
  obtain ⟨U, hU⟩ : ∃ U, U = i + m - 2 := ⟨_, rfl⟩
  obtain ⟨r5, r6, r7, el⟩ := in_loop (i := i) (.lent 0 o4) (.val d) (.val (.int L)) (.val (.int U)) .non .non .non [(.int L, .int U), (.non, .int U), (.int L, .non), (.non, .non)] .non .non .non (by
    intro p hp
    simp only [List.mem_cons, List.not_mem_nil, or_false] at hp
    rcases hp with rfl | rfl | rfl | rfl <;> exact ⟨rfl, rfl⟩)
  obtain ⟨v, o5, e5, a5, b5, v5⟩ := dip_v (many := 4) v4 (by omega) (by decide) (by decide)
  have rg := rng_ok (v := v) (by omega) a5
  have rl := rng_len v
  obtain ⟨ys, o6, e6, l6, g6, v6⟩ := draw_comp (own := [9]) (mi := iRng ranged1 (lCons (eCallL f__law_dip (lCons (eVar 0) (lCons (eLit (.int 4)) (lNil)))) (lNil))) (g := gNam 9) (me := eCallL f__law_integer (lCons (eVar 0) (lNil))) (its := rangeD 0 v)
    (τ := [.lent 0 o4, .val (.int i), .val d, .val (.int L), .val (.int U), r5, r6, r7, .non, .non, .non]) (τ1 := [.lent 0 o5, .val (.int i), .val d, .val (.int L), .val (.int U), r5, r6, r7, .non, .non, .non]) (rest := [.val (.int i), .val d, .val (.int L), .val (.int U), r5, r6, r7, .non, .non, .non]) VS (fun y => ∃ i : Int, y = .int i ∧ True) 3 (by simp only [e5, rg, lendTo, hand, bnd_ap, of_ap, seq_ap, asg_ap, ret_ap, retN_ap, sif_ap, expr_ap, par_ap, par3_ap, asgT_ap, nil_ap, brk_ap, cnt_ap, give_val, give_own, give_ali, take_val, take_own, take_ali, ta_nil, ta_cons, pk_val, pk_own, pk_ali, pa_nil', pa_cons', var_ap, lit_ap, op_ap, un_ap, cb_ap, lc_ap, ln_ap, tup_ap, lst_ap, cv_ap, ck_ap, cl_ap, and_ap, or_ap, not_ap, eif_ap, bval_ap, bnot_ap, band_ap, bor_ap, gnam_ap, gtup_ap, gend_ap, gcons_ap, rng_ap, for_ap, loop_nil, setIx_ap, run_ap, M.ret, unpk, asB, back, retS, fit_of, sInt, sBl, fIx, fLen, fAbs, fInt, fList, Mi.isNon, fIsN, fNotN, fCmp, fLt, fLe, fGt, fGe, fAdd, fSub, fNeg, O.frz, Mi.pick, List.getElem?_cons_zero, List.getElem?_cons_succ, List.getElem?_nil, List.set_cons_zero, List.set_cons_succ, List.map_cons, List.map_nil, List.length_cons, List.length_nil, List.replicate_succ, List.replicate_zero, List.cons_append, List.nil_append, Option.map_some, Option.map_none, if_true, if_false, Bool.false_eq_true, Bool.not_true, Bool.not_false, decide_true, decide_false, reduceIte, ne_eq, not_true_eq_false, not_false_eq_true, List.getD_cons_zero, List.getD_cons_succ, Nat.reduceAdd, Nat.reduceSub, Nat.reduceLeDiff, Nat.reduceEqDiff, atI_0, atI_1, atI_2, lam_ap, append_ap, make_ap, setF_ap, own_ap, meth_ap, methD_ap, norm_val, norm_own, norm_ali, onMethD_ap, onMeth_val, onMeth_ali, lz_ap, raise_ap, try_ap, thunk_raw, thunk_exc, byes_ap, Mi.insAt, lendTo, hand, eChain, Mi.isL, onL, okFl]) rfl o5 (k + 3 + 4 + 1 + 1 + 1) rfl v5 (fun x hx o q hq ho => by
      rw [rl] at hq
      obtain ⟨j, o7, e7, b7, v7⟩ := integer_v ho (by omega)
      exact ⟨.int j, o7, [.lent 0 o, .val (.int i), .val d, .val (.int L), .val (.int U), r5, r6, r7, .non, .val x, .non], [.lent 0 o7, .val (.int i), .val d, .val (.int L), .val (.int U), r5, r6, r7, .non, .val x, .non], rfl, by simp only [e7, lendTo, hand, bnd_ap, of_ap, seq_ap, asg_ap, ret_ap, retN_ap, sif_ap, expr_ap, par_ap, par3_ap, asgT_ap, nil_ap, brk_ap, cnt_ap, give_val, give_own, give_ali, take_val, take_own, take_ali, ta_nil, ta_cons, pk_val, pk_own, pk_ali, pa_nil', pa_cons', var_ap, lit_ap, op_ap, un_ap, cb_ap, lc_ap, ln_ap, tup_ap, lst_ap, cv_ap, ck_ap, cl_ap, and_ap, or_ap, not_ap, eif_ap, bval_ap, bnot_ap, band_ap, bor_ap, gnam_ap, gtup_ap, gend_ap, gcons_ap, rng_ap, for_ap, loop_nil, setIx_ap, run_ap, M.ret, unpk, asB, back, retS, fit_of, sInt, sBl, fIx, fLen, fAbs, fInt, fList, Mi.isNon, fIsN, fNotN, fCmp, fLt, fLe, fGt, fGe, fAdd, fSub, fNeg, O.frz, Mi.pick, List.getElem?_cons_zero, List.getElem?_cons_succ, List.getElem?_nil, List.set_cons_zero, List.set_cons_succ, List.map_cons, List.map_nil, List.length_cons, List.length_nil, List.replicate_succ, List.replicate_zero, List.cons_append, List.nil_append, Option.map_some, Option.map_none, if_true, if_false, Bool.false_eq_true, Bool.not_true, Bool.not_false, decide_true, decide_false, reduceIte, ne_eq, not_true_eq_false, not_false_eq_true, List.getD_cons_zero, List.getD_cons_succ, Nat.reduceAdd, Nat.reduceSub, Nat.reduceLeDiff, Nat.reduceEqDiff, atI_0, atI_1, atI_2, lam_ap, append_ap, make_ap, setF_ap, own_ap, meth_ap, methD_ap, norm_val, norm_own, norm_ali, onMethD_ap, onMeth_val, onMeth_ali, lz_ap, raise_ap, try_ap, thunk_raw, thunk_exc, byes_ap, Mi.insAt, lendTo, hand, eChain, Mi.isL, onL, okFl], rfl, ⟨_, rfl, trivial⟩, v7⟩) (by rw [rl]; omega) (fun o o' => by cases r5 <;> cases r6 <;> cases r7 <;> rfl)
  obtain ⟨ns, rfl, _⟩ := ints_of g6
  rw [rl, List.length_map] at l6
  rw [rl] at v6
  obtain ⟨at_, o8, e8, a8, b8, v8⟩ := dip_v (many := (ns.length : Int) + 1) v6 (by omega) (by omega) (by omega)
  refine ⟨o8, ?_, v8.up (by omega)⟩
  have al := are_l (ns := ns) (by omega)
  have at2 := are_t (ns := ns) (by omega)
  rw [f__law_integers_right]
  refine run_1 (τ := [.lent 0 o8, .val (.int i), .val d, .val (.int L), .val (.int U), r5, r6, r7, .val (.lst (ns.map .int)), .non, .val (.int at_)]) rfl ?_ rfl rfl
  show m__law_integers_right [.lent 0 o, .non, .non, .non, .non, .non, .non, .non, .non, .non, .non] = _
  unfold m__law_integers_right
  refine at_seq (τ1 := [.lent 0 o2, .val (.int i), .val d, .non, .non, .non, .non, .non, .non, .non, .non]) (by simp only [e1, e2, lendTo, hand, bnd_ap, of_ap, seq_ap, asg_ap, ret_ap, retN_ap, sif_ap, expr_ap, par_ap, par3_ap, asgT_ap, nil_ap, brk_ap, cnt_ap, give_val, give_own, give_ali, take_val, take_own, take_ali, ta_nil, ta_cons, pk_val, pk_own, pk_ali, pa_nil', pa_cons', var_ap, lit_ap, op_ap, un_ap, cb_ap, lc_ap, ln_ap, tup_ap, lst_ap, cv_ap, ck_ap, cl_ap, and_ap, or_ap, not_ap, eif_ap, bval_ap, bnot_ap, band_ap, bor_ap, gnam_ap, gtup_ap, gend_ap, gcons_ap, rng_ap, for_ap, loop_nil, setIx_ap, run_ap, M.ret, unpk, asB, back, retS, fit_of, sInt, sBl, fIx, fLen, fAbs, fInt, fList, Mi.isNon, fIsN, fNotN, fCmp, fLt, fLe, fGt, fGe, fAdd, fSub, fNeg, O.frz, Mi.pick, List.getElem?_cons_zero, List.getElem?_cons_succ, List.getElem?_nil, List.set_cons_zero, List.set_cons_succ, List.map_cons, List.map_nil, List.length_cons, List.length_nil, List.replicate_succ, List.replicate_zero, List.cons_append, List.nil_append, Option.map_some, Option.map_none, if_true, if_false, Bool.false_eq_true, Bool.not_true, Bool.not_false, decide_true, decide_false, reduceIte, ne_eq, not_true_eq_false, not_false_eq_true, List.getD_cons_zero, List.getD_cons_succ, Nat.reduceAdd, Nat.reduceSub, Nat.reduceLeDiff, Nat.reduceEqDiff, atI_0, atI_1, atI_2, lam_ap, append_ap, make_ap, setF_ap, own_ap, meth_ap, methD_ap, norm_val, norm_own, norm_ali, onMethD_ap, onMeth_val, onMeth_ali, lz_ap, raise_ap, try_ap, thunk_raw, thunk_exc, byes_ap, Mi.insAt, lendTo, hand, eChain, Mi.isL, onL, okFl]) ?_
  refine at_seq (τ1 := [.lent 0 o2, .val (.int i), .val d, .non, .non, .non, .non, .non, .non, .non, .non]) (by simp only [ii, ie, wn, same_ok, beq_self_eq_true, bnd_ap, of_ap, seq_ap, asg_ap, ret_ap, retN_ap, sif_ap, expr_ap, par_ap, par3_ap, asgT_ap, nil_ap, brk_ap, cnt_ap, give_val, give_own, give_ali, take_val, take_own, take_ali, ta_nil, ta_cons, pk_val, pk_own, pk_ali, pa_nil', pa_cons', var_ap, lit_ap, op_ap, un_ap, cb_ap, lc_ap, ln_ap, tup_ap, lst_ap, cv_ap, ck_ap, cl_ap, and_ap, or_ap, not_ap, eif_ap, bval_ap, bnot_ap, band_ap, bor_ap, gnam_ap, gtup_ap, gend_ap, gcons_ap, rng_ap, for_ap, loop_nil, setIx_ap, run_ap, M.ret, unpk, asB, back, retS, fit_of, sInt, sBl, fIx, fLen, fAbs, fInt, fList, Mi.isNon, fIsN, fNotN, fCmp, fLt, fLe, fGt, fGe, fAdd, fSub, fNeg, O.frz, Mi.pick, List.getElem?_cons_zero, List.getElem?_cons_succ, List.getElem?_nil, List.set_cons_zero, List.set_cons_succ, List.map_cons, List.map_nil, List.length_cons, List.length_nil, List.replicate_succ, List.replicate_zero, List.cons_append, List.nil_append, Option.map_some, Option.map_none, if_true, if_false, Bool.false_eq_true, Bool.not_true, Bool.not_false, decide_true, decide_false, reduceIte, ne_eq, not_true_eq_false, not_false_eq_true, List.getD_cons_zero, List.getD_cons_succ, Nat.reduceAdd, Nat.reduceSub, Nat.reduceLeDiff, Nat.reduceEqDiff, atI_0, atI_1, atI_2, lam_ap, append_ap, make_ap, setF_ap, own_ap, meth_ap, methD_ap, norm_val, norm_own, norm_ali, onMethD_ap, onMeth_val, onMeth_ali, lz_ap, raise_ap, try_ap, thunk_raw, thunk_exc, byes_ap, Mi.insAt, lendTo, hand, eChain, Mi.isL, onL, okFl]) ?_
  refine at_seq (τ1 := [.lent 0 o4, .val (.int i), .val d, .val (.int L), .val (.int U), .non, .non, .non, .non, .non, .non]) (by simp only [e3, e4, lendTo, hand, hL, hU, bnd_ap, of_ap, seq_ap, asg_ap, ret_ap, retN_ap, sif_ap, expr_ap, par_ap, par3_ap, asgT_ap, nil_ap, brk_ap, cnt_ap, give_val, give_own, give_ali, take_val, take_own, take_ali, ta_nil, ta_cons, pk_val, pk_own, pk_ali, pa_nil', pa_cons', var_ap, lit_ap, op_ap, un_ap, cb_ap, lc_ap, ln_ap, tup_ap, lst_ap, cv_ap, ck_ap, cl_ap, and_ap, or_ap, not_ap, eif_ap, bval_ap, bnot_ap, band_ap, bor_ap, gnam_ap, gtup_ap, gend_ap, gcons_ap, rng_ap, for_ap, loop_nil, setIx_ap, run_ap, M.ret, unpk, asB, back, retS, fit_of, sInt, sBl, fIx, fLen, fAbs, fInt, fList, Mi.isNon, fIsN, fNotN, fCmp, fLt, fLe, fGt, fGe, fAdd, fSub, fNeg, O.frz, Mi.pick, List.getElem?_cons_zero, List.getElem?_cons_succ, List.getElem?_nil, List.set_cons_zero, List.set_cons_succ, List.map_cons, List.map_nil, List.length_cons, List.length_nil, List.replicate_succ, List.replicate_zero, List.cons_append, List.nil_append, Option.map_some, Option.map_none, if_true, if_false, Bool.false_eq_true, Bool.not_true, Bool.not_false, decide_true, decide_false, reduceIte, ne_eq, not_true_eq_false, not_false_eq_true, List.getD_cons_zero, List.getD_cons_succ, Nat.reduceAdd, Nat.reduceSub, Nat.reduceLeDiff, Nat.reduceEqDiff, atI_0, atI_1, atI_2, lam_ap, append_ap, make_ap, setF_ap, own_ap, meth_ap, methD_ap, norm_val, norm_own, norm_ali, onMethD_ap, onMeth_val, onMeth_ali, lz_ap, raise_ap, try_ap, thunk_raw, thunk_exc, byes_ap, Mi.insAt, lendTo, hand, eChain, Mi.isL, onL, okFl]) ?_
  refine at_seq (τ1 := [.lent 0 o4, .val (.int i), .val d, .val (.int L), .val (.int U), r5, r6, r7, .non, .non, .non]) ?_ ?_
  · show sFor _ _ inB _ = _
    rw [for_ap, bnd_ap, iseq_val (.tup [.tup [.int L, .int U], .tup [.non, .int U], .tup [.int L, .non], .tup [.non, .non]]) (xs := [.tup [.int L, .int U], .tup [.non, .int U], .tup [.int L, .non], .tup [.non, .non]]) (τ1 := [.lent 0 o4, .val (.int i), .val d, .val (.int L), .val (.int U), .non, .non, .non, .non, .non, .non]) (by simp only [bnd_ap, of_ap, seq_ap, asg_ap, ret_ap, retN_ap, sif_ap, expr_ap, par_ap, par3_ap, asgT_ap, nil_ap, brk_ap, cnt_ap, give_val, give_own, give_ali, take_val, take_own, take_ali, ta_nil, ta_cons, pk_val, pk_own, pk_ali, pa_nil', pa_cons', var_ap, lit_ap, op_ap, un_ap, cb_ap, lc_ap, ln_ap, tup_ap, lst_ap, cv_ap, ck_ap, cl_ap, and_ap, or_ap, not_ap, eif_ap, bval_ap, bnot_ap, band_ap, bor_ap, gnam_ap, gtup_ap, gend_ap, gcons_ap, rng_ap, for_ap, loop_nil, setIx_ap, run_ap, M.ret, unpk, asB, back, retS, fit_of, sInt, sBl, fIx, fLen, fAbs, fInt, fList, Mi.isNon, fIsN, fNotN, fCmp, fLt, fLe, fGt, fGe, fAdd, fSub, fNeg, O.frz, Mi.pick, List.getElem?_cons_zero, List.getElem?_cons_succ, List.getElem?_nil, List.set_cons_zero, List.set_cons_succ, List.map_cons, List.map_nil, List.length_cons, List.length_nil, List.replicate_succ, List.replicate_zero, List.cons_append, List.nil_append, Option.map_some, Option.map_none, if_true, if_false, Bool.false_eq_true, Bool.not_true, Bool.not_false, decide_true, decide_false, reduceIte, ne_eq, not_true_eq_false, not_false_eq_true, List.getD_cons_zero, List.getD_cons_succ, Nat.reduceAdd, Nat.reduceSub, Nat.reduceLeDiff, Nat.reduceEqDiff, atI_0, atI_1, atI_2, lam_ap, append_ap, make_ap, setF_ap, own_ap, meth_ap, methD_ap, norm_val, norm_own, norm_ali, onMethD_ap, onMeth_val, onMeth_ali, lz_ap, raise_ap, try_ap, thunk_raw, thunk_exc, byes_ap, Mi.insAt, lendTo, hand, eChain, Mi.isL, onL, okFl]) rfl]
    exact el
  have rt : restT [9] [.lent 0 o5, .val (.int i), .val d, .val (.int L), .val (.int U), r5, r6, r7, .non, .non, .non] (.lent 0 o6 :: [.val (.int i), .val d, .val (.int L), .val (.int U), r5, r6, r7, .non, .non, .non]) = [.lent 0 o6, .val (.int i), .val d, .val (.int L), .val (.int U), r5, r6, r7, .non, .non, .non] := rfl
  rw [rt] at e6
  refine at_seq (asg_o e6) ?_
  refine at_seq (τ1 := [.lent 0 o8, .val (.int i), .val d, .val (.int L), .val (.int U), r5, r6, r7, .own (.lst (ns.map .int)), .non, .val (.int at_)]) (by
    have hl : (((ns.map D.int).length : Nat) : Int) = (ns.length : Int) := by rw [List.length_map]
    simp only [hl, e8, lendTo, hand, bnd_ap, of_ap, seq_ap, asg_ap, ret_ap, retN_ap, sif_ap, expr_ap, par_ap, par3_ap, asgT_ap, nil_ap, brk_ap, cnt_ap, give_val, give_own, give_ali, take_val, take_own, take_ali, ta_nil, ta_cons, pk_val, pk_own, pk_ali, pa_nil', pa_cons', var_ap, lit_ap, op_ap, un_ap, cb_ap, lc_ap, ln_ap, tup_ap, lst_ap, cv_ap, ck_ap, cl_ap, and_ap, or_ap, not_ap, eif_ap, bval_ap, bnot_ap, band_ap, bor_ap, gnam_ap, gtup_ap, gend_ap, gcons_ap, rng_ap, for_ap, loop_nil, setIx_ap, run_ap, M.ret, unpk, asB, back, retS, fit_of, sInt, sBl, fIx, fLen, fAbs, fInt, fList, Mi.isNon, fIsN, fNotN, fCmp, fLt, fLe, fGt, fGe, fAdd, fSub, fNeg, O.frz, Mi.pick, List.getElem?_cons_zero, List.getElem?_cons_succ, List.getElem?_nil, List.set_cons_zero, List.set_cons_succ, List.map_cons, List.map_nil, List.length_cons, List.length_nil, List.replicate_succ, List.replicate_zero, List.cons_append, List.nil_append, Option.map_some, Option.map_none, if_true, if_false, Bool.false_eq_true, Bool.not_true, Bool.not_false, decide_true, decide_false, reduceIte, ne_eq, not_true_eq_false, not_false_eq_true, List.getD_cons_zero, List.getD_cons_succ, Nat.reduceAdd, Nat.reduceSub, Nat.reduceLeDiff, Nat.reduceEqDiff, atI_0, atI_1, atI_2, lam_ap, append_ap, make_ap, setF_ap, own_ap, meth_ap, methD_ap, norm_val, norm_own, norm_ali, onMethD_ap, onMeth_val, onMeth_ali, lz_ap, raise_ap, try_ap, thunk_raw, thunk_exc, byes_ap, Mi.insAt, lendTo, hand, eChain, Mi.isL, onL, okFl]) ?_
  refine at_seq (τ1 := [.lent 0 o8, .val (.int i), .val d, .val (.int L), .val (.int U), r5, r6, r7, .val (.lst (ns.map .int)), .non, .val (.int at_)]) (by simp only [al, at2, fTuple, same_ok, beq_self_eq_true, bnd_ap, of_ap, seq_ap, asg_ap, ret_ap, retN_ap, sif_ap, expr_ap, par_ap, par3_ap, asgT_ap, nil_ap, brk_ap, cnt_ap, give_val, give_own, give_ali, take_val, take_own, take_ali, ta_nil, ta_cons, pk_val, pk_own, pk_ali, pa_nil', pa_cons', var_ap, lit_ap, op_ap, un_ap, cb_ap, lc_ap, ln_ap, tup_ap, lst_ap, cv_ap, ck_ap, cl_ap, and_ap, or_ap, not_ap, eif_ap, bval_ap, bnot_ap, band_ap, bor_ap, gnam_ap, gtup_ap, gend_ap, gcons_ap, rng_ap, for_ap, loop_nil, setIx_ap, run_ap, M.ret, unpk, asB, back, retS, fit_of, sInt, sBl, fIx, fLen, fAbs, fInt, fList, Mi.isNon, fIsN, fNotN, fCmp, fLt, fLe, fGt, fGe, fAdd, fSub, fNeg, O.frz, Mi.pick, List.getElem?_cons_zero, List.getElem?_cons_succ, List.getElem?_nil, List.set_cons_zero, List.set_cons_succ, List.map_cons, List.map_nil, List.length_cons, List.length_nil, List.replicate_succ, List.replicate_zero, List.cons_append, List.nil_append, Option.map_some, Option.map_none, if_true, if_false, Bool.false_eq_true, Bool.not_true, Bool.not_false, decide_true, decide_false, reduceIte, ne_eq, not_true_eq_false, not_false_eq_true, List.getD_cons_zero, List.getD_cons_succ, Nat.reduceAdd, Nat.reduceSub, Nat.reduceLeDiff, Nat.reduceEqDiff, atI_0, atI_1, atI_2, lam_ap, append_ap, make_ap, setF_ap, own_ap, meth_ap, methD_ap, norm_val, norm_own, norm_ali, onMethD_ap, onMeth_val, onMeth_ali, lz_ap, raise_ap, try_ap, thunk_raw, thunk_exc, byes_ap, Mi.insAt, lendTo, hand, eChain, Mi.isL, onL, okFl]) ?_
  -- the last row
  obtain ⟨T, hT⟩ : ∃ T : List Mi.S, T = [.lent 0 o8, .val (.int i), .val d, .val (.int L), .val (.int U), r5, r6, r7, .val (.lst (ns.map .int)), .non, .val (.int at_)] := ⟨_, rfl⟩
  have h8 : T[8]? = some (.val (.lst (ns.map .int))) := by rw [hT]; rfl
  have h10 : T[10]? = some (.val (.int at_)) := by rw [hT]; rfl
  have h2 : T[2]? = some (.val d) := by rw [hT]; rfl
  have c1 := cut_len (ns.map .int) none (some at_)
  have c2 := cut_len (ns.map .int) (some at_) none
  rw [List.length_map] at c1 c2
  have f1 : fAdd (.lst (cut (ns.map .int) none (some at_))) (.lst [d]) = some (.own (.lst (cut (ns.map .int) none (some at_) ++ [d]))) := add_l (by simp only [List.length_cons, List.length_nil]; omega)
  have f2 : fAdd (.lst (cut (ns.map .int) none (some at_) ++ [d])) (.lst (cut (ns.map .int) (some at_) none)) = some (.own (.lst (cut (ns.map .int) none (some at_) ++ [d] ++ cut (ns.map .int) (some at_) none))) := add_l (by simp only [List.length_append, List.length_cons, List.length_nil]; omega)
  have x1 : eLst (lCons (eVar 2) lNil) T = .ok (.own (.lst [d]), T) := by simp only [lst_ap, lc_ap, ln_ap, bnd_ap, var_ap, h2, M.ret, ta_cons, ta_nil, take_val, of_ap, fit_of, List.length_cons, List.length_nil, Nat.reduceAdd, Nat.reduceLeDiff]
  have x2 := op_v (f := fAdd) (esl_lo h8 h10) x1 pk_o pk_o f1
  have x3 := op_v (f := fAdd) x2 (esl_hi h8 h10) pk_o pk_o f2
  have ar : f_are_integers [.val (.lst (cut (ns.map .int) none (some at_) ++ [d] ++ cut (ns.map .int) (some at_) none))] = .ok (.val (.bl false), [.non]) := by
    have hm : ∀ x ∈ cut (ns.map .int) none (some at_) ++ [d] ++ cut (ns.map .int) (some at_) none, tgd x = true := fun x hx => by
      simp only [List.mem_append, List.mem_cons, List.not_mem_nil, or_false] at hx
      rcases hx with (hx | rfl) | hx
      · exact tgd_ints x (cut_mem hx)
      · exact td
      · exact tgd_ints x (cut_mem hx)
    rw [are_ok rfl fun xs e => by
      cases e
      refine ⟨?_, hm⟩
      simp only [List.length_append, List.length_cons, List.length_nil]
      omega]
    have : areI (.lst (cut (ns.map .int) none (some at_) ++ [d] ++ cut (ns.map .int) (some at_) none)) = false := by
      show List.all _ isI = false
      simp only [List.all_append, List.all_cons, nd, Bool.false_and, Bool.and_false]
    rw [this]
  have a2 : f_are_integers [.val (.dic [(.inl 0, .int 1)])] = .ok (.val (.bl false), [.non]) := are_ok rfl (fun xs e => by cases e)
  have a3 : f_are_integers [.val (.str "12")] = .ok (.val (.bl false), [.non]) := are_ok rfl (fun xs e => by cases e)
  rw [← hT]
  have k1 := call_1 (mf := f_are_integers) x3 tk_o ar
  refine ret_v (eand_t (τ1 := T) ?_ (eand_t (τ1 := T) ?_ ?_))
  · exact same_e (b := false) k1
  · exact same_e (b := false) (call_1 lit_v tk_v a2)
  · exact same_e (b := false) (call_1 lit_v tk_v a3)
end K01

namespace K01
open PySem PySem.Spec PyProof.Rows L2 Mi
/-! #### the greatest common divisor -/
noncomputable def gB : M Fl := (sSeq (sPar 3 4 (lCons (eVar 1) (lCons (eCB fAbs (lCons (eVar 2) (lNil))) (lNil)))) (sSeq (sWhile (bVal (eOp fNe (eVar 4) (eLit (.int 0)))) (sPar 3 4 (lCons (eVar 4) (lCons (eOp fMod (eVar 3) (eVar 4)) (lNil))))) (sAsg 1 (eVar 3))))
noncomputable def gC : M Bool := (bVal (eOp fNe (eVar 4) (eLit (.int 0))))
noncomputable def gW : M Fl := (sPar 3 4 (lCons (eVar 4) (lCons (eOp fMod (eVar 3) (eVar 4)) (lNil))))
theorem gB_eq : gB = sSeq (sPar 3 4 (lCons (eVar 1) (lCons (eCB fAbs (lCons (eVar 2) (lNil))) (lNil)))) (sSeq (sWhile gC gW) (sAsg 1 (eVar 3))) := rfl
def gcdF (g : Nat) (ns : List Int) : Nat := ns.foldl (fun g i => Nat.gcd g i.natAbs) g
def gcdL (ns : List Int) : Nat := gcdF 0 ns
theorem g_loop (a b c : Mi.S) : ∀ (t l : Nat), ∃ n, whileN gC gW n [a, b, c, .val (.int l), .val (.int t)] = .ok (some .nx, [a, b, c, .val (.int (Nat.gcd l t)), .val (.int 0)]) := by
  intro t
  induction t using Nat.strongRecOn with
  | ind t ih =>
    intro l
    by_cases h0 : t = 0
    · subst h0
      refine ⟨1, ?_⟩
      have e : fNe (.int ((0 : Nat) : Int)) (.int 0) = some (.val (.bl false)) := by rw [Mi.ne_int]; rfl
      simp only [whileN, gC, e, bnd_ap, of_ap, seq_ap, asg_ap, ret_ap, retN_ap, sif_ap, expr_ap, par_ap, par3_ap, asgT_ap, nil_ap, brk_ap, cnt_ap, give_val, give_own, give_ali, take_val, take_own, take_ali, ta_nil, ta_cons, pk_val, pk_own, pk_ali, pa_nil', pa_cons', var_ap, lit_ap, op_ap, un_ap, cb_ap, lc_ap, ln_ap, tup_ap, lst_ap, cv_ap, ck_ap, cl_ap, and_ap, or_ap, not_ap, eif_ap, bval_ap, bnot_ap, band_ap, bor_ap, gnam_ap, gtup_ap, gend_ap, gcons_ap, rng_ap, for_ap, loop_nil, setIx_ap, run_ap, M.ret, unpk, asB, back, retS, fit_of, sInt, sBl, fIx, fLen, fAbs, fInt, fList, Mi.isNon, fIsN, fNotN, fCmp, fLt, fLe, fGt, fGe, fAdd, fSub, fNeg, O.frz, Mi.pick, List.getElem?_cons_zero, List.getElem?_cons_succ, List.getElem?_nil, List.set_cons_zero, List.set_cons_succ, List.map_cons, List.map_nil, List.length_cons, List.length_nil, List.replicate_succ, List.replicate_zero, List.cons_append, List.nil_append, Option.map_some, Option.map_none, if_true, if_false, Bool.false_eq_true, Bool.not_true, Bool.not_false, decide_true, decide_false, reduceIte, ne_eq, not_true_eq_false, not_false_eq_true, List.getD_cons_zero, List.getD_cons_succ, Nat.reduceAdd, Nat.reduceSub, Nat.reduceLeDiff, Nat.reduceEqDiff, atI_0, atI_1, atI_2, Nat.gcd_zero_right]
      rfl
    · have tp : 0 < t := by omega
      obtain ⟨n, e⟩ := ih (l % t) (Nat.mod_lt l tp) t
      refine ⟨n + 1, ?_⟩
      have e1 : fNe (.int (t : Int)) (.int 0) = some (.val (.bl true)) := by rw [Mi.ne_int]; simp [h0]
      have md := mod_ok (i := (l : Int)) (j := (t : Int)) (by omega)
      have e2 : (l : Int) % (t : Int) = ((l % t : Nat) : Int) := by omega
      refine while_step (r := .stuck) (τ1 := [a, b, c, .val (.int l), .val (.int t)]) (τ2 := [a, b, c, .val (.int t), .val (.int (l % t : Nat))]) (by simp only [gC, e1, bnd_ap, of_ap, seq_ap, asg_ap, ret_ap, retN_ap, sif_ap, expr_ap, par_ap, par3_ap, asgT_ap, nil_ap, brk_ap, cnt_ap, give_val, give_own, give_ali, take_val, take_own, take_ali, ta_nil, ta_cons, pk_val, pk_own, pk_ali, pa_nil', pa_cons', var_ap, lit_ap, op_ap, un_ap, cb_ap, lc_ap, ln_ap, tup_ap, lst_ap, cv_ap, ck_ap, cl_ap, and_ap, or_ap, not_ap, eif_ap, bval_ap, bnot_ap, band_ap, bor_ap, gnam_ap, gtup_ap, gend_ap, gcons_ap, rng_ap, for_ap, loop_nil, setIx_ap, run_ap, M.ret, unpk, asB, back, retS, fit_of, sInt, sBl, fIx, fLen, fAbs, fInt, fList, Mi.isNon, fIsN, fNotN, fCmp, fLt, fLe, fGt, fGe, fAdd, fSub, fNeg, O.frz, Mi.pick, List.getElem?_cons_zero, List.getElem?_cons_succ, List.getElem?_nil, List.set_cons_zero, List.set_cons_succ, List.map_cons, List.map_nil, List.length_cons, List.length_nil, List.replicate_succ, List.replicate_zero, List.cons_append, List.nil_append, Option.map_some, Option.map_none, if_true, if_false, Bool.false_eq_true, Bool.not_true, Bool.not_false, decide_true, decide_false, reduceIte, ne_eq, not_true_eq_false, not_false_eq_true, List.getD_cons_zero, List.getD_cons_succ, Nat.reduceAdd, Nat.reduceSub, Nat.reduceLeDiff, Nat.reduceEqDiff, atI_0, atI_1, atI_2]) (by simp only [gW, md, e2, bnd_ap, of_ap, seq_ap, asg_ap, ret_ap, retN_ap, sif_ap, expr_ap, par_ap, par3_ap, asgT_ap, nil_ap, brk_ap, cnt_ap, give_val, give_own, give_ali, take_val, take_own, take_ali, ta_nil, ta_cons, pk_val, pk_own, pk_ali, pa_nil', pa_cons', var_ap, lit_ap, op_ap, un_ap, cb_ap, lc_ap, ln_ap, tup_ap, lst_ap, cv_ap, ck_ap, cl_ap, and_ap, or_ap, not_ap, eif_ap, bval_ap, bnot_ap, band_ap, bor_ap, gnam_ap, gtup_ap, gend_ap, gcons_ap, rng_ap, for_ap, loop_nil, setIx_ap, run_ap, M.ret, unpk, asB, back, retS, fit_of, sInt, sBl, fIx, fLen, fAbs, fInt, fList, Mi.isNon, fIsN, fNotN, fCmp, fLt, fLe, fGt, fGe, fAdd, fSub, fNeg, O.frz, Mi.pick, List.getElem?_cons_zero, List.getElem?_cons_succ, List.getElem?_nil, List.set_cons_zero, List.set_cons_succ, List.map_cons, List.map_nil, List.length_cons, List.length_nil, List.replicate_succ, List.replicate_zero, List.cons_append, List.nil_append, Option.map_some, Option.map_none, if_true, if_false, Bool.false_eq_true, Bool.not_true, Bool.not_false, decide_true, decide_false, reduceIte, ne_eq, not_true_eq_false, not_false_eq_true, List.getD_cons_zero, List.getD_cons_succ, Nat.reduceAdd, Nat.reduceSub, Nat.reduceLeDiff, Nat.reduceEqDiff, atI_0, atI_1, atI_2]) ?_
      rw [e]
      have g : Nat.gcd t (l % t) = Nat.gcd l t := by rw [Nat.gcd_comm l t, Nat.gcd_rec t l, Nat.gcd_comm]
      rw [g]
theorem m_loop (a : Mi.S) : ∀ (ns : List Int) (g : Nat) (r2 r3 r4 : Mi.S), ∃ s2 s3 s4, loopM noPin (gNam 2) gB (ns.map D.int) [a, .val (.int g), r2, r3, r4] = .ok (.nx, [a, .val (.int (gcdF g ns)), s2, s3, s4])
  | [], g, r2, r3, r4 => ⟨r2, r3, r4, rfl⟩
  | i :: ns, g, r2, r3, r4 => by
    obtain ⟨s2, s3, s4, e⟩ := m_loop a ns (Nat.gcd g i.natAbs) (.val (.int i)) (.val (.int (Nat.gcd g i.natAbs))) (.val (.int 0))
    refine ⟨s2, s3, s4, ?_⟩
    obtain ⟨n, en⟩ := g_loop a (.val (.int g)) (.val (.int i)) i.natAbs g
    have st : gB [a, .val (.int g), .val (.int i), r3, r4] = .ok (.nx, [a, .val (.int (Nat.gcd g i.natAbs)), .val (.int i), .val (.int (Nat.gcd g i.natAbs)), .val (.int 0)]) := by
      rw [gB_eq]
      refine at_seq (τ1 := [a, .val (.int g), .val (.int i), .val (.int g), .val (.int i.natAbs)]) (by simp only [abs_eq, bnd_ap, of_ap, seq_ap, asg_ap, ret_ap, retN_ap, sif_ap, expr_ap, par_ap, par3_ap, asgT_ap, nil_ap, brk_ap, cnt_ap, give_val, give_own, give_ali, take_val, take_own, take_ali, ta_nil, ta_cons, pk_val, pk_own, pk_ali, pa_nil', pa_cons', var_ap, lit_ap, op_ap, un_ap, cb_ap, lc_ap, ln_ap, tup_ap, lst_ap, cv_ap, ck_ap, cl_ap, and_ap, or_ap, not_ap, eif_ap, bval_ap, bnot_ap, band_ap, bor_ap, gnam_ap, gtup_ap, gend_ap, gcons_ap, rng_ap, for_ap, loop_nil, setIx_ap, run_ap, M.ret, unpk, asB, back, retS, fit_of, sInt, sBl, fIx, fLen, fAbs, fInt, fList, Mi.isNon, fIsN, fNotN, fCmp, fLt, fLe, fGt, fGe, fAdd, fSub, fNeg, O.frz, Mi.pick, List.getElem?_cons_zero, List.getElem?_cons_succ, List.getElem?_nil, List.set_cons_zero, List.set_cons_succ, List.map_cons, List.map_nil, List.length_cons, List.length_nil, List.replicate_succ, List.replicate_zero, List.cons_append, List.nil_append, Option.map_some, Option.map_none, if_true, if_false, Bool.false_eq_true, Bool.not_true, Bool.not_false, decide_true, decide_false, reduceIte, ne_eq, not_true_eq_false, not_false_eq_true, List.getD_cons_zero, List.getD_cons_succ, Nat.reduceAdd, Nat.reduceSub, Nat.reduceLeDiff, Nat.reduceEqDiff, atI_0, atI_1, atI_2]) ?_
      exact at_seq (while_ok en) rfl
    rw [List.map_cons, loop_cons]
    simp only [gnam_ap, List.set_cons_succ, List.set_cons_zero, st, e]
    rfl
theorem measure_ok {d : D} {ns : List Int} (hd : items d = some (ns.map .int)) : f_measure [.val d] = .ok (.val (.int (gcdL ns)), [.non]) := by
  obtain ⟨s2, s3, s4, e⟩ := m_loop (.val d) ns 0 .non .non .non
  rw [f_measure]
  refine run_1 (τ := [.val d, .val (.int (gcdL ns)), s2, s3, s4]) rfl ?_ rfl rfl
  show m_measure [.val d, .non, .non, .non, .non] = _
  unfold m_measure
  refine at_seq (τ1 := [.val d, .val (.int 0), .non, .non, .non]) rfl ?_
  refine at_seq (τ1 := [.val d, .val (.int (gcdL ns)), s2, s3, s4]) ?_ rfl
  show sFor _ _ gB _ = _
  rw [for_ap, bnd_ap, iseq_val d (τ1 := [.val d, .val (.int 0), .non, .non, .non]) rfl hd]
  exact e
theorem gcdF_dvd : ∀ (ns : List Int) (g : Nat), gcdF g ns ∣ g ∧ ∀ n ∈ ns, gcdF g ns ∣ n.natAbs
  | [], g => ⟨Nat.dvd_refl _, fun _ h => nomatch h⟩
  | i :: ns, g => by
    obtain ⟨h1, h2⟩ := gcdF_dvd ns (Nat.gcd g i.natAbs)
    have e : gcdF g (i :: ns) = gcdF (Nat.gcd g i.natAbs) ns := rfl
    rw [e]
    refine ⟨Nat.dvd_trans h1 (Nat.gcd_dvd_left _ _), fun n hn => ?_⟩
    rcases List.mem_cons.mp hn with rfl | hn
    · exact Nat.dvd_trans h1 (Nat.gcd_dvd_right _ _)
    · exact h2 n hn
theorem dvd_gcdF : ∀ (ns : List Int) (g k : Nat), k ∣ g → (∀ n ∈ ns, k ∣ n.natAbs) → k ∣ gcdF g ns
  | [], g, k, h, _ => h
  | i :: ns, g, k, h, hs => dvd_gcdF ns _ k (Nat.dvd_gcd h (hs i List.mem_cons_self)) fun n hn => hs n (List.mem_cons_of_mem _ hn)
theorem gcdL_dvd {ns : List Int} {n : Int} (h : n ∈ ns) : gcdL ns ∣ n.natAbs := (gcdF_dvd ns 0).2 n h
theorem dvd_gcdL {ns : List Int} {k : Nat} (h : ∀ n ∈ ns, k ∣ n.natAbs) : k ∣ gcdL ns := dvd_gcdF ns 0 k (Nat.dvd_zero _) h
theorem gcdL_uniq {ns : List Int} {k : Nat} (h1 : ∀ n ∈ ns, k ∣ n.natAbs) (h2 : ∀ j, (∀ n ∈ ns, j ∣ n.natAbs) → j ∣ k) : gcdL ns = k := Nat.dvd_antisymm (h2 _ fun n hn => gcdL_dvd hn) (dvd_gcdL h1)
theorem gcdL_zero {ns : List Int} (h : gcdL ns = 0) : ∀ n ∈ ns, n = 0 := fun n hn => by
  have := gcdL_dvd hn
  rw [h] at this
  have := Nat.eq_zero_of_zero_dvd this
  omega
/-! #### this law's own one -/
theorem div_id {d n : Int} (hd : 0 < d) : n.fdiv d * d = n ↔ d ∣ n := by
  rw [Int.fdiv_eq_ediv_of_nonneg n (by omega)]
  constructor
  · intro h; exact ⟨n / d, by rw [Int.mul_comm]; exact h.symm⟩
  · intro h; exact Int.ediv_mul_cancel h
theorem divides_ok {d : Int} {ns : List Int} (hd : 0 < d) (hd2 : d < 2 ^ 50) (hn : ∀ n ∈ ns, n.natAbs < 2 ^ 50) (hl : ns.length ≤ 1000) : f__law_divides [.val (.int d), .val (.lst (ns.map .int))] = .ok (.val (.bl (decide (∀ n ∈ ns, d ∣ n))), [.non, .non]) := by
  have dv := fun i => div_ok (i := i) (j := d) (by omega) (Nat.lt_of_lt_of_le (show d.natAbs < 2 ^ 50 by omega) (Nat.pow_le_pow_right (by decide) (by decide)))
  have c := ecompF (own := [2]) (mi := iSeq (eVar 1)) (g := gNam 2) (test := (bVal (eOp fNe (eOp fMul (eOp fDiv (eVar 2) (eVar 0)) (eVar 0)) (eVar 2)))) (me := eVar 2) ns D.int D.int (fun n => !(n.fdiv d * d == n)) (τ := [.val (.int d), .val (.lst (ns.map .int)), .non]) (τ1 := [.val (.int d), .val (.lst (ns.map .int)), .non])
    (iseq_val (.lst (ns.map .int)) rfl rfl) rfl (fun n hn' => by
      have b := hn n hn'
      have sm : (n.fdiv d).natAbs < 2 ^ 60 := by
        rw [Int.fdiv_eq_ediv_of_nonneg n (by omega)]
        have := Int.natAbs_ediv_le_natAbs n d
        omega
      have m := mul_l (j := d) sm
      refine ⟨[.val (.int d), .val (.lst (ns.map .int)), .val (.int n)], [.val (.int d), .val (.lst (ns.map .int)), .val (.int n)], rfl, ?_, fun _ => rfl, fun _ => ⟨_, rfl, rfl⟩⟩
      simp only [dv, m, Mi.ne_int, bnd_ap, of_ap, seq_ap, asg_ap, ret_ap, retN_ap, sif_ap, expr_ap, par_ap, par3_ap, asgT_ap, nil_ap, brk_ap, cnt_ap, give_val, give_own, give_ali, take_val, take_own, take_ali, ta_nil, ta_cons, pk_val, pk_own, pk_ali, pa_nil', pa_cons', var_ap, lit_ap, op_ap, un_ap, cb_ap, lc_ap, ln_ap, tup_ap, lst_ap, cv_ap, ck_ap, cl_ap, and_ap, or_ap, not_ap, eif_ap, bval_ap, bnot_ap, band_ap, bor_ap, gnam_ap, gtup_ap, gend_ap, gcons_ap, rng_ap, for_ap, loop_nil, setIx_ap, run_ap, M.ret, unpk, asB, back, retS, fit_of, sInt, sBl, fIx, fLen, fAbs, fInt, fList, Mi.isNon, fIsN, fNotN, fCmp, fLt, fLe, fGt, fGe, fAdd, fSub, fNeg, O.frz, Mi.pick, List.getElem?_cons_zero, List.getElem?_cons_succ, List.getElem?_nil, List.set_cons_zero, List.set_cons_succ, List.map_cons, List.map_nil, List.length_cons, List.length_nil, List.replicate_succ, List.replicate_zero, List.cons_append, List.nil_append, Option.map_some, Option.map_none, if_true, if_false, Bool.false_eq_true, Bool.not_true, Bool.not_false, decide_true, decide_false, reduceIte, ne_eq, not_true_eq_false, not_false_eq_true, List.getD_cons_zero, List.getD_cons_succ, Nat.reduceAdd, Nat.reduceSub, Nat.reduceLeDiff, Nat.reduceEqDiff, atI_0, atI_1, atI_2]) hl rfl
  have e : ((ns.filter fun n => !(n.fdiv d * d == n)).map D.int).isEmpty = decide (∀ n ∈ ns, d ∣ n) := by
    rw [List.isEmpty_map, Bool.eq_iff_iff, List.isEmpty_iff, List.filter_eq_nil_iff, decide_eq_true_eq]
    constructor
    · intro h n hn
      have := h n hn
      simp only [Bool.not_eq_true', beq_eq_false_iff_ne, ne_eq, Decidable.not_not] at this
      exact (div_id hd).mp this
    · intro h n hn
      simp only [Bool.not_eq_true', beq_eq_false_iff_ne, ne_eq, Decidable.not_not]
      exact (div_id hd).mpr (h n hn)
  have q := fEq_nil (n := 0) (xs := (ns.filter fun n => !(n.fdiv d * d == n)).map D.int) pl_ints (by decide)
  rw [e] at q
  rw [f__law_divides, run_ap]
  simp only [m__law_divides, c, q, bnd_ap, of_ap, seq_ap, asg_ap, ret_ap, retN_ap, sif_ap, expr_ap, par_ap, par3_ap, asgT_ap, nil_ap, brk_ap, cnt_ap, give_val, give_own, give_ali, take_val, take_own, take_ali, ta_nil, ta_cons, pk_val, pk_own, pk_ali, pa_nil', pa_cons', var_ap, lit_ap, op_ap, un_ap, cb_ap, lc_ap, ln_ap, tup_ap, lst_ap, cv_ap, ck_ap, cl_ap, and_ap, or_ap, not_ap, eif_ap, bval_ap, bnot_ap, band_ap, bor_ap, gnam_ap, gtup_ap, gend_ap, gcons_ap, rng_ap, for_ap, loop_nil, setIx_ap, run_ap, M.ret, unpk, asB, back, retS, fit_of, sInt, sBl, fIx, fLen, fAbs, fInt, fList, Mi.isNon, fIsN, fNotN, fCmp, fLt, fLe, fGt, fGe, fAdd, fSub, fNeg, O.frz, Mi.pick, List.getElem?_cons_zero, List.getElem?_cons_succ, List.getElem?_nil, List.set_cons_zero, List.set_cons_succ, List.map_cons, List.map_nil, List.length_cons, List.length_nil, List.replicate_succ, List.replicate_zero, List.cons_append, List.nil_append, Option.map_some, Option.map_none, if_true, if_false, Bool.false_eq_true, Bool.not_true, Bool.not_false, decide_true, decide_false, reduceIte, ne_eq, not_true_eq_false, not_false_eq_true, List.getD_cons_zero, List.getD_cons_succ, Nat.reduceAdd, Nat.reduceSub, Nat.reduceLeDiff, Nat.reduceEqDiff, atI_0, atI_1, atI_2]
theorem ints_mapD {α : Type} (f : α → Int) (xs : List α) : intsD (xs.map fun x => D.int (f x)) = some (xs.map f) := by
  induction xs with
  | nil => rfl
  | cons x xs ih => simp only [List.map_cons, intsD, ih, Option.map_some]
/-- the greatest of ints -/
theorem max_ok {xs : List Int} (h : xs ≠ []) : ∃ m, fMax [.lst (xs.map D.int)] = some (.val (.int m)) ∧ m ∈ xs ∧ ∀ x ∈ xs, x ≤ m := by
  obtain ⟨x, r, rfl⟩ := List.exists_cons_of_ne_nil h
  obtain ⟨h1, h2⟩ := foldl_max r x
  refine ⟨r.foldl max x, ?_, h1, h2⟩
  have e := ints_mapD (fun i : Int => i) (x :: r)
  rw [List.map_id'] at e
  simp only [fMax, e]
theorem lawmeasure_ok {ns : List Int} (hn : ∀ n ∈ ns, (n.natAbs : Int) ≤ 900) (hl : ns.length ≤ 900) : f__law_measure [.val (.lst (ns.map .int))] = .ok (.val (.int (gcdL ns)), [.non]) := by
  obtain ⟨mx, m1, m2, m3⟩ := max_ok (xs := ns.map (fun n : Int => (n.natAbs : Int)) ++ [0]) (by simp)
  have c1 := ecompM (own := [2]) (mi := iSeq (eVar 0)) (g := gNam 2) (me := eCB fAbs (lCons (eVar 2) (lNil))) ns D.int (fun n => .int (n.natAbs : Int)) (τ := [.val (.lst (ns.map .int)), .non, .non, .non]) (τ1 := [.val (.lst (ns.map .int)), .non, .non, .non])
    (iseq_val (.lst (ns.map .int)) rfl rfl) rfl (fun n _ => ⟨[.val (.lst (ns.map .int)), .non, .val (.int n), .non], [.val (.lst (ns.map .int)), .non, .val (.int n), .non], rfl, by simp only [abs_eq, bnd_ap, of_ap, seq_ap, asg_ap, ret_ap, retN_ap, sif_ap, expr_ap, par_ap, par3_ap, asgT_ap, nil_ap, brk_ap, cnt_ap, give_val, give_own, give_ali, take_val, take_own, take_ali, ta_nil, ta_cons, pk_val, pk_own, pk_ali, pa_nil', pa_cons', var_ap, lit_ap, op_ap, un_ap, cb_ap, lc_ap, ln_ap, tup_ap, lst_ap, cv_ap, ck_ap, cl_ap, and_ap, or_ap, not_ap, eif_ap, bval_ap, bnot_ap, band_ap, bor_ap, gnam_ap, gtup_ap, gend_ap, gcons_ap, rng_ap, for_ap, loop_nil, setIx_ap, run_ap, M.ret, unpk, asB, back, retS, fit_of, sInt, sBl, fIx, fLen, fAbs, fInt, fList, Mi.isNon, fIsN, fNotN, fCmp, fLt, fLe, fGt, fGe, fAdd, fSub, fNeg, O.frz, Mi.pick, List.getElem?_cons_zero, List.getElem?_cons_succ, List.getElem?_nil, List.set_cons_zero, List.set_cons_succ, List.map_cons, List.map_nil, List.length_cons, List.length_nil, List.replicate_succ, List.replicate_zero, List.cons_append, List.nil_append, Option.map_some, Option.map_none, if_true, if_false, Bool.false_eq_true, Bool.not_true, Bool.not_false, decide_true, decide_false, reduceIte, ne_eq, not_true_eq_false, not_false_eq_true, List.getD_cons_zero, List.getD_cons_succ, Nat.reduceAdd, Nat.reduceSub, Nat.reduceLeDiff, Nat.reduceEqDiff, atI_0, atI_1, atI_2], rfl⟩) (by omega) rfl
  have f1 : fAdd (.lst (ns.map fun n => D.int (n.natAbs : Int))) (.lst [.int 0]) = some (.own (.lst ((ns.map (fun n : Int => (n.natAbs : Int)) ++ [0]).map D.int))) := by
    rw [add_l (by simp only [List.length_map, List.length_cons, List.length_nil]; omega), List.map_append, List.map_map]
    rfl
  have mx0 : 0 ≤ mx := m3 0 (by simp)
  have mxb : mx ≤ 900 := by
    rcases List.mem_append.mp m2 with h | h
    · obtain ⟨n, hn', rfl⟩ := List.mem_map.mp h
      exact hn n hn'
    · simp only [List.mem_cons, List.not_mem_nil, or_false] at h
      omega
  have e1 : eCB fMax (lCons (eOp fAdd (eComp [2] (iSeq (eVar 0)) (gNam 2) (bYes) (eCB fAbs (lCons (eVar 2) (lNil)))) (eLst (lCons (eLit (.int 0)) (lNil)))) (lNil)) [.val (.lst (ns.map .int)), .non, .non, .non] = .ok (.val (.int mx), [.val (.lst (ns.map .int)), .non, .non, .non]) :=
    cb_1 (op_v (s2 := .own (.lst [.int 0])) c1 (by simp only [bnd_ap, of_ap, seq_ap, asg_ap, ret_ap, retN_ap, sif_ap, expr_ap, par_ap, par3_ap, asgT_ap, nil_ap, brk_ap, cnt_ap, give_val, give_own, give_ali, take_val, take_own, take_ali, ta_nil, ta_cons, pk_val, pk_own, pk_ali, pa_nil', pa_cons', var_ap, lit_ap, op_ap, un_ap, cb_ap, lc_ap, ln_ap, tup_ap, lst_ap, cv_ap, ck_ap, cl_ap, and_ap, or_ap, not_ap, eif_ap, bval_ap, bnot_ap, band_ap, bor_ap, gnam_ap, gtup_ap, gend_ap, gcons_ap, rng_ap, for_ap, loop_nil, setIx_ap, run_ap, M.ret, unpk, asB, back, retS, fit_of, sInt, sBl, fIx, fLen, fAbs, fInt, fList, Mi.isNon, fIsN, fNotN, fCmp, fLt, fLe, fGt, fGe, fAdd, fSub, fNeg, O.frz, Mi.pick, List.getElem?_cons_zero, List.getElem?_cons_succ, List.getElem?_nil, List.set_cons_zero, List.set_cons_succ, List.map_cons, List.map_nil, List.length_cons, List.length_nil, List.replicate_succ, List.replicate_zero, List.cons_append, List.nil_append, Option.map_some, Option.map_none, if_true, if_false, Bool.false_eq_true, Bool.not_true, Bool.not_false, decide_true, decide_false, reduceIte, ne_eq, not_true_eq_false, not_false_eq_true, List.getD_cons_zero, List.getD_cons_succ, Nat.reduceAdd, Nat.reduceSub, Nat.reduceLeDiff, Nat.reduceEqDiff, atI_0, atI_1, atI_2]) pk_o pk_o f1) pk_o m1
  -- the divisors
  have rg : ranged2 [.int 1, .int (mx + 1)] = some ((List.range mx.toNat).map fun n => .int (1 + (n : Int))) := by
    have h1 : Mi.inR 1 = true := by decide
    have h2 : Mi.inR (mx + 1) = true := decide_eq_true ⟨by omega, by omega⟩
    have h3 : (mx + 1 - 1).toNat = mx.toNat := by omega
    simp only [ranged2, h1, h2, and_self, if_true, rangeD, h3]
  have c2 := ecompF (own := [3]) (mi := iRng ranged2 (lCons (eLit (.int 1)) (lCons (eOp fAdd (eVar 1) (eLit (.int 1))) (lNil)))) (g := gNam 3) (test := (bVal (eCallV f__law_divides (lCons (eVar 3) (lCons (eVar 0) (lNil)))))) (me := eVar 3) (List.range mx.toNat) (fun n => D.int (1 + (n : Int))) (fun n => D.int (1 + (n : Int))) (fun n => decide (∀ x ∈ ns, (1 + (n : Int)) ∣ x)) (τ := [.val (.lst (ns.map .int)), .val (.int mx), .non, .non]) (τ1 := [.val (.lst (ns.map .int)), .val (.int mx), .non, .non])
    (by simp only [rg, bnd_ap, of_ap, seq_ap, asg_ap, ret_ap, retN_ap, sif_ap, expr_ap, par_ap, par3_ap, asgT_ap, nil_ap, brk_ap, cnt_ap, give_val, give_own, give_ali, take_val, take_own, take_ali, ta_nil, ta_cons, pk_val, pk_own, pk_ali, pa_nil', pa_cons', var_ap, lit_ap, op_ap, un_ap, cb_ap, lc_ap, ln_ap, tup_ap, lst_ap, cv_ap, ck_ap, cl_ap, and_ap, or_ap, not_ap, eif_ap, bval_ap, bnot_ap, band_ap, bor_ap, gnam_ap, gtup_ap, gend_ap, gcons_ap, rng_ap, for_ap, loop_nil, setIx_ap, run_ap, M.ret, unpk, asB, back, retS, fit_of, sInt, sBl, fIx, fLen, fAbs, fInt, fList, Mi.isNon, fIsN, fNotN, fCmp, fLt, fLe, fGt, fGe, fAdd, fSub, fNeg, O.frz, Mi.pick, List.getElem?_cons_zero, List.getElem?_cons_succ, List.getElem?_nil, List.set_cons_zero, List.set_cons_succ, List.map_cons, List.map_nil, List.length_cons, List.length_nil, List.replicate_succ, List.replicate_zero, List.cons_append, List.nil_append, Option.map_some, Option.map_none, if_true, if_false, Bool.false_eq_true, Bool.not_true, Bool.not_false, decide_true, decide_false, reduceIte, ne_eq, not_true_eq_false, not_false_eq_true, List.getD_cons_zero, List.getD_cons_succ, Nat.reduceAdd, Nat.reduceSub, Nat.reduceLeDiff, Nat.reduceEqDiff, atI_0, atI_1, atI_2]) rfl (fun n hn' => by
      have hr : n < mx.toNat := List.mem_range.mp hn'
      have dv := divides_ok (d := 1 + (n : Int)) (ns := ns) (by omega) (by omega) (fun x hx => by have := hn x hx; omega) (by omega)
      exact ⟨[.val (.lst (ns.map .int)), .val (.int mx), .non, .val (.int (1 + (n : Int)))], [.val (.lst (ns.map .int)), .val (.int mx), .non, .val (.int (1 + (n : Int)))], rfl, by simp only [dv, bnd_ap, of_ap, seq_ap, asg_ap, ret_ap, retN_ap, sif_ap, expr_ap, par_ap, par3_ap, asgT_ap, nil_ap, brk_ap, cnt_ap, give_val, give_own, give_ali, take_val, take_own, take_ali, ta_nil, ta_cons, pk_val, pk_own, pk_ali, pa_nil', pa_cons', var_ap, lit_ap, op_ap, un_ap, cb_ap, lc_ap, ln_ap, tup_ap, lst_ap, cv_ap, ck_ap, cl_ap, and_ap, or_ap, not_ap, eif_ap, bval_ap, bnot_ap, band_ap, bor_ap, gnam_ap, gtup_ap, gend_ap, gcons_ap, rng_ap, for_ap, loop_nil, setIx_ap, run_ap, M.ret, unpk, asB, back, retS, fit_of, sInt, sBl, fIx, fLen, fAbs, fInt, fList, Mi.isNon, fIsN, fNotN, fCmp, fLt, fLe, fGt, fGe, fAdd, fSub, fNeg, O.frz, Mi.pick, List.getElem?_cons_zero, List.getElem?_cons_succ, List.getElem?_nil, List.set_cons_zero, List.set_cons_succ, List.map_cons, List.map_nil, List.length_cons, List.length_nil, List.replicate_succ, List.replicate_zero, List.cons_append, List.nil_append, Option.map_some, Option.map_none, if_true, if_false, Bool.false_eq_true, Bool.not_true, Bool.not_false, decide_true, decide_false, reduceIte, ne_eq, not_true_eq_false, not_false_eq_true, List.getD_cons_zero, List.getD_cons_succ, Nat.reduceAdd, Nat.reduceSub, Nat.reduceLeDiff, Nat.reduceEqDiff, atI_0, atI_1, atI_2], fun _ => rfl, fun _ => ⟨_, rfl, rfl⟩⟩) (by rw [List.length_range]; omega) rfl
  obtain ⟨L, hL⟩ : ∃ L, L = ((List.range mx.toNat).filter fun n : Nat => decide (∀ x ∈ ns, (1 + (n : Int)) ∣ x)).map fun n : Nat => 1 + (n : Int) := ⟨_, rfl⟩
  have lL : L.length ≤ 900 := by
    rw [hL, List.length_map]
    have := List.length_filter_le (fun n : Nat => decide (∀ x ∈ ns, (1 + (n : Int)) ∣ x)) (List.range mx.toNat)
    rw [List.length_range] at this
    omega
  have eL : (((List.range mx.toNat).filter fun n : Nat => decide (∀ x ∈ ns, (1 + (n : Int)) ∣ x)).map fun n : Nat => D.int (1 + (n : Int))) = L.map D.int := by rw [hL, List.map_map]; rfl
  rw [eL] at c2
  have f2 : fAdd (.lst (L.map D.int)) (.lst [.int 0]) = some (.own (.lst ((L ++ [0]).map D.int))) := by
    rw [add_l (by simp only [List.length_map, List.length_cons, List.length_nil]; omega), List.map_append]
    rfl
  obtain ⟨G, g1, g2, g3⟩ := max_ok (xs := L ++ [0]) (by simp)
  have inL : ∀ d : Int, d ∈ L ↔ 1 ≤ d ∧ d ≤ mx ∧ ∀ x ∈ ns, d ∣ x := fun d => by
    rw [hL]
    simp only [List.mem_map, List.mem_filter, List.mem_range, decide_eq_true_eq]
    constructor
    · rintro ⟨n, ⟨h1, h2⟩, rfl⟩
      exact ⟨by omega, by omega, h2⟩
    · rintro ⟨h1, h2, h3⟩
      refine ⟨(d - 1).toNat, ⟨by omega, fun x hx => ?_⟩, by omega⟩
      have : 1 + (((d - 1).toNat : Nat) : Int) = d := by omega
      rw [this]; exact h3 x hx
  have gG : G = (gcdL ns : Int) := by
    have up : G ≤ (gcdL ns : Int) := by
      rcases List.mem_append.mp g2 with h | h
      · obtain ⟨h1, h2, h3⟩ := (inL G).mp h
        have dv : G.natAbs ∣ gcdL ns := dvd_gcdL fun n hn' => Int.natAbs_dvd_natAbs.mpr (h3 n hn')
        by_cases hz : gcdL ns = 0
        · exfalso
          have z := gcdL_zero hz
          rcases List.mem_append.mp m2 with q | q
          · obtain ⟨n, hn', e⟩ := List.mem_map.mp q
            have := z n hn'
            omega
          · simp only [List.mem_cons, List.not_mem_nil, or_false] at q
            omega
        · have := Nat.le_of_dvd (by omega) dv
          omega
      · simp only [List.mem_cons, List.not_mem_nil, or_false] at h
        omega
    have dn : (gcdL ns : Int) ≤ G := by
      by_cases hz : gcdL ns = 0
      · rw [hz]; exact g3 0 (by simp)
      · refine g3 _ (List.mem_append_left _ ((inL _).mpr ⟨by omega, ?_, fun x hx => ?_⟩))
        · -- one that is not 0
          have : ∃ n ∈ ns, n ≠ 0 := by
            apply Classical.byContradiction
            intro hno
            have all0 : ∀ n ∈ ns, n = 0 := fun n hn' => Classical.byContradiction fun q => hno ⟨n, hn', q⟩
            have : gcdL ns = 0 := gcdL_uniq (fun n hn' => by rw [all0 n hn']; exact Nat.dvd_refl 0) fun j _ => Nat.dvd_zero j
            exact hz this
          obtain ⟨n, hn', n0⟩ := this
          have dv := gcdL_dvd hn'
          have := Nat.le_of_dvd (by omega) dv
          have := m3 (n.natAbs : Int) (List.mem_append_left _ (List.mem_map.mpr ⟨n, hn', rfl⟩))
          omega
        · exact Int.natAbs_dvd_natAbs.mp (by simpa using gcdL_dvd hx)
    omega
  have e2 : eCB fMax (lCons (eOp fAdd (eComp [3] (iRng ranged2 (lCons (eLit (.int 1)) (lCons (eOp fAdd (eVar 1) (eLit (.int 1))) (lNil)))) (gNam 3) (bVal (eCallV f__law_divides (lCons (eVar 3) (lCons (eVar 0) (lNil))))) (eVar 3)) (eLst (lCons (eLit (.int 0)) (lNil)))) (lNil)) [.val (.lst (ns.map .int)), .val (.int mx), .non, .non] = .ok (.val (.int G), [.val (.lst (ns.map .int)), .val (.int mx), .non, .non]) :=
    cb_1 (op_v (s2 := .own (.lst [.int 0])) c2 (by simp only [bnd_ap, of_ap, seq_ap, asg_ap, ret_ap, retN_ap, sif_ap, expr_ap, par_ap, par3_ap, asgT_ap, nil_ap, brk_ap, cnt_ap, give_val, give_own, give_ali, take_val, take_own, take_ali, ta_nil, ta_cons, pk_val, pk_own, pk_ali, pa_nil', pa_cons', var_ap, lit_ap, op_ap, un_ap, cb_ap, lc_ap, ln_ap, tup_ap, lst_ap, cv_ap, ck_ap, cl_ap, and_ap, or_ap, not_ap, eif_ap, bval_ap, bnot_ap, band_ap, bor_ap, gnam_ap, gtup_ap, gend_ap, gcons_ap, rng_ap, for_ap, loop_nil, setIx_ap, run_ap, M.ret, unpk, asB, back, retS, fit_of, sInt, sBl, fIx, fLen, fAbs, fInt, fList, Mi.isNon, fIsN, fNotN, fCmp, fLt, fLe, fGt, fGe, fAdd, fSub, fNeg, O.frz, Mi.pick, List.getElem?_cons_zero, List.getElem?_cons_succ, List.getElem?_nil, List.set_cons_zero, List.set_cons_succ, List.map_cons, List.map_nil, List.length_cons, List.length_nil, List.replicate_succ, List.replicate_zero, List.cons_append, List.nil_append, Option.map_some, Option.map_none, if_true, if_false, Bool.false_eq_true, Bool.not_true, Bool.not_false, decide_true, decide_false, reduceIte, ne_eq, not_true_eq_false, not_false_eq_true, List.getD_cons_zero, List.getD_cons_succ, Nat.reduceAdd, Nat.reduceSub, Nat.reduceLeDiff, Nat.reduceEqDiff, atI_0, atI_1, atI_2]) pk_o pk_o f2) pk_o g1
  rw [f__law_measure]
  refine run_1 (τ := [.val (.lst (ns.map .int)), .val (.int mx), .non, .non]) rfl ?_ rfl rfl
  show m__law_measure [.val (.lst (ns.map .int)), .non, .non, .non] = _
  unfold m__law_measure
  refine at_seq (asg_v e1) ?_
  rw [← gG]
  exact ret_v e2
end K01

namespace K01
open PySem PySem.Spec PyProof.Rows L2 Mi
/-! #### rows made primitive -/
def nz (ns : List Int) : List Int := ns.filter fun n => !(n == 0)
def fs (ns : List Int) : Int := (nz ns).headD 0
def sg (ns : List Int) : Int := if fs ns < 0 then -(gcdL ns : Int) else (gcdL ns : Int)
def rd (ns : List Int) : List Int := if gcdL ns = 0 then ns else ns.map fun n => n.fdiv (sg ns)
theorem mem_nz {ns : List Int} {n : Int} : n ∈ nz ns ↔ n ∈ ns ∧ n ≠ 0 := by
  unfold nz
  rw [List.mem_filter]
  simp
theorem fs_mem {ns : List Int} (h : fs ns ≠ 0) : fs ns ∈ ns := by
  unfold fs at h ⊢
  cases e : nz ns with
  | nil => rw [e] at h; exact absurd rfl h
  | cons x r =>
    rw [List.headD_cons]
    exact (mem_nz.mp (by rw [e]; exact List.mem_cons_self)).1
theorem fs_zero {ns : List Int} : fs ns = 0 ↔ gcdL ns = 0 := by
  constructor
  · intro h
    have : nz ns = [] := by
      unfold fs at h
      cases e : nz ns with
      | nil => rfl
      | cons x r =>
        rw [e, List.headD_cons] at h
        exact absurd h (mem_nz.mp (by rw [e]; exact List.mem_cons_self)).2
    refine gcdL_uniq (fun n hn => ?_) fun j _ => Nat.dvd_zero j
    have z : n = 0 := Classical.byContradiction fun q => by
      have := mem_nz.mpr ⟨hn, q⟩
      rw [‹nz ns = []›] at this
      cases this
    rw [z]
    exact Nat.dvd_refl 0
  · intro h
    exact Classical.byContradiction fun q => q (gcdL_zero h _ (fs_mem q))
theorem nz_cons {ns : List Int} (h : gcdL ns ≠ 0) : ∃ r, nz ns = fs ns :: r := by
  unfold fs
  cases e : nz ns with
  | nil =>
    exfalso
    refine h (fs_zero.mp ?_)
    unfold fs
    rw [e]; rfl
  | cons x r => exact ⟨r, rfl⟩
theorem nz_mul {c : Int} (hc : c ≠ 0) : ∀ ns : List Int, nz (ns.map fun n => c * n) = (nz ns).map fun n => c * n
  | [] => rfl
  | n :: ns => by
    have ih := nz_mul hc ns
    unfold nz at ih ⊢
    rw [List.map_cons]
    by_cases h : n = 0
    · rw [List.filter_cons_of_neg (by simp [h]), List.filter_cons_of_neg (by simp [h]), ih]
    · rw [List.filter_cons_of_pos (by simp [h, hc]), List.filter_cons_of_pos (by simp [h]), ih, List.map_cons]
theorem fs_mul {c : Int} (hc : c ≠ 0) (ns : List Int) : fs (ns.map fun n => c * n) = c * fs ns := by
  unfold fs
  rw [nz_mul hc]
  cases nz ns with
  | nil => simp
  | cons x r => rfl
theorem gcdF_mul (c : Nat) : ∀ (ns : List Int) (g : Nat), gcdF (c * g) (ns.map fun n => (c : Int) * n) = c * gcdF g ns
  | [], g => rfl
  | n :: ns, g => by
    have e : gcdF (c * g) ((n :: ns).map fun n => (c : Int) * n) = gcdF (Nat.gcd (c * g) ((c : Int) * n).natAbs) (ns.map fun n => (c : Int) * n) := rfl
    rw [e, Int.natAbs_mul, Int.natAbs_natCast, Nat.gcd_mul_left, gcdF_mul c ns]
    rfl
theorem gcdL_neg (ns : List Int) : gcdL (ns.map fun n => -n) = gcdL ns := by
  refine gcdL_uniq (fun n hn => ?_) fun j hj => dvd_gcdL fun n hn => ?_
  · obtain ⟨m, hm, rfl⟩ := List.mem_map.mp hn
    rw [Int.natAbs_neg]; exact gcdL_dvd hm
  · have := hj (-n) (List.mem_map.mpr ⟨n, hn, rfl⟩)
    rwa [Int.natAbs_neg] at this
theorem gcdL_mul (c : Int) (ns : List Int) : gcdL (ns.map fun n => c * n) = c.natAbs * gcdL ns := by
  have pos : gcdL (ns.map fun n => (c.natAbs : Int) * n) = c.natAbs * gcdL ns := by
    have := gcdF_mul c.natAbs ns 0
    rwa [Nat.mul_zero] at this
  rcases Int.natAbs_eq c with h | h
  · have e : (ns.map fun n => c * n) = ns.map fun n => (c.natAbs : Int) * n := by
      congr 1
      funext n
      rw [← h]
    rw [e, pos]
  · have e : (ns.map fun n => c * n) = (ns.map fun n => (c.natAbs : Int) * n).map fun n => -n := by
      rw [List.map_map]
      congr 1
      funext n
      show c * n = -((c.natAbs : Int) * n)
      rw [← Int.neg_mul, ← h]
    rw [e, gcdL_neg, pos]
theorem sg_mul {c : Int} (hc : c ≠ 0) (ns : List Int) : sg (ns.map fun n => c * n) = c * sg ns := by
  unfold sg
  rw [fs_mul hc, gcdL_mul]
  by_cases hz : gcdL ns = 0
  · rw [hz]; simp
  have f0 : fs ns ≠ 0 := fun z => hz (fs_zero.mp z)
  rw [Int.natCast_mul]
  obtain ⟨F, hF⟩ : ∃ F, F = fs ns := ⟨_, rfl⟩
  rw [← hF] at f0 ⊢
  rcases Int.lt_or_gt_of_ne hc with h | h
  · have ca : (c.natAbs : Int) = -c := by omega
    rcases Int.lt_or_gt_of_ne f0 with q | q
    · have := Int.mul_pos_of_neg_of_neg h q
      rw [if_neg (by omega), if_pos q, ca]
      grind
    · have := Int.mul_neg_of_neg_of_pos h q
      rw [if_pos this, if_neg (by omega), ca]
      grind
  · have ca : (c.natAbs : Int) = c := by omega
    rcases Int.lt_or_gt_of_ne f0 with q | q
    · have := Int.mul_neg_of_pos_of_neg h q
      rw [if_pos this, if_pos q, ca]
      grind
    · have := Int.mul_pos h q
      rw [if_neg (by omega), if_neg (by omega), ca]
theorem sg_ne {ns : List Int} (h : gcdL ns ≠ 0) : sg ns ≠ 0 := by
  unfold sg
  split <;> omega
theorem sg_abs (ns : List Int) : (sg ns).natAbs = gcdL ns := by
  unfold sg
  split <;> omega
theorem rd_spec {ns : List Int} (h : gcdL ns ≠ 0) : ns = (rd ns).map fun k => sg ns * k := by
  unfold rd
  rw [if_neg h, List.map_map]
  have : ∀ n ∈ ns, sg ns * n.fdiv (sg ns) = n := fun n hn => by
    have d := gcdL_dvd hn
    rw [← sg_abs] at d
    obtain ⟨k, hk⟩ := Int.natAbs_dvd_natAbs.mp d
    rw [hk, Int.mul_fdiv_cancel_left _ (sg_ne h)]
  conv => lhs; rw [← List.map_id ns]
  refine List.map_congr_left fun n hn => ?_
  exact (this n hn).symm
theorem rd_gcd {ns : List Int} (h : gcdL ns ≠ 0) : gcdL (rd ns) = 1 := by
  have e := gcdL_mul (sg ns) (rd ns)
  rw [← rd_spec h, sg_abs] at e
  have : gcdL ns * 1 = gcdL ns * gcdL (rd ns) := by omega
  exact (Nat.eq_of_mul_eq_mul_left (by omega) this).symm
theorem rd_fs {ns : List Int} (h : gcdL ns ≠ 0) : 0 < fs (rd ns) := by
  have e := fs_mul (sg_ne h) (rd ns)
  rw [← rd_spec h] at e
  have f0 : fs ns ≠ 0 := fun z => h (fs_zero.mp z)
  have s : sg ns = if fs ns < 0 then -(gcdL ns : Int) else (gcdL ns : Int) := rfl
  obtain ⟨F, hF⟩ : ∃ F, F = fs ns := ⟨_, rfl⟩
  obtain ⟨R, hR⟩ : ∃ R, R = fs (rd ns) := ⟨_, rfl⟩
  rw [← hF, ← hR] at e
  rw [← hF] at s f0
  rw [← hR]
  apply Classical.byContradiction
  intro q
  rcases Int.lt_or_gt_of_ne f0 with p | p
  · rw [if_pos p] at s
    rw [s] at e
    have := Int.mul_nonneg_of_nonpos_of_nonpos (a := -(gcdL ns : Int)) (b := R) (by omega) (by omega)
    omega
  · rw [if_neg (by omega)] at s
    rw [s] at e
    have := Int.mul_nonpos_of_nonneg_of_nonpos (a := (gcdL ns : Int)) (b := R) (by omega) (by omega)
    omega
theorem rd_mul {c : Int} (hc : c ≠ 0) (ns : List Int) : rd (ns.map fun n => c * n) = rd ns := by
  by_cases h : gcdL ns = 0
  · have z := gcdL_zero h
    have e : (ns.map fun n => c * n) = ns := by
      conv => rhs; rw [← List.map_id ns]
      refine List.map_congr_left fun n hn => ?_
      rw [z n hn, Int.mul_zero]; rfl
    rw [e]
  · have h' : gcdL (ns.map fun n => c * n) ≠ 0 := by
      rw [gcdL_mul]
      have : c.natAbs ≠ 0 := by omega
      exact Nat.mul_ne_zero this h
    have e1 := rd_spec h
    have e2 := rd_spec h'
    rw [sg_mul hc] at e2
    have e3 : (ns.map fun n => c * n) = (rd ns).map fun k => c * sg ns * k := by
      conv => lhs; rw [e1]
      rw [List.map_map]
      refine List.map_congr_left fun k _ => ?_
      show c * (sg ns * k) = c * sg ns * k
      rw [Int.mul_assoc]
    rw [e3] at e2
    have inj : ∀ (xs ys : List Int) (t : Int), t ≠ 0 → (xs.map fun k => t * k) = (ys.map fun k => t * k) → xs = ys := fun xs => by
      induction xs with
      | nil => intro ys t _ e; cases ys with
        | nil => rfl
        | cons _ _ => cases e
      | cons x xs ih => intro ys t ht e; cases ys with
        | nil => cases e
        | cons y ys =>
          rw [List.map_cons, List.map_cons] at e
          obtain ⟨p, q⟩ := List.cons.inj e
          rw [Int.eq_of_mul_eq_mul_left ht p, ih ys t ht q]
    rw [e3]
    exact (inj _ _ _ (Int.mul_ne_zero hc (sg_ne h)) e2).symm
theorem rd_len (ns : List Int) : (rd ns).length = ns.length := by
  unfold rd
  split
  · rfl
  · rw [List.length_map]
theorem gcdL_rev (ns : List Int) : gcdL ns.reverse = gcdL ns := gcdL_uniq (fun n hn => gcdL_dvd (List.mem_reverse.mp hn)) fun j hj => dvd_gcdL fun n hn => hj n (List.mem_reverse.mpr hn)
/-! #### what the code makes of rows -/
def Seq (d : D) (ns : List Int) : Prop := d = .lst (ns.map .int) ∨ d = .tup (ns.map .int)
theorem Seq.items {d : D} {ns : List Int} (h : Seq d ns) : items d = some (ns.map .int) := by rcases h with rfl | rfl <;> rfl
theorem Seq.are {d : D} {ns : List Int} (h : Seq d ns) (hl : ns.length ≤ 1000) : f_are_integers [.val d] = .ok (.val (.bl true), [.non]) := by
  rcases h with rfl | rfl
  · exact are_l hl
  · exact are_t hl
theorem need_y {d : D} {ns : List Int} (h : Seq d ns) (hl : ns.length ≤ 1000) : f_need_numbers [.val d, .val (.str "values")] = .ok (.val .non, [.non, .non]) := by
  have e := h.are hl
  simp only [f_need_numbers, m_need_numbers, e, bnd_ap, of_ap, seq_ap, asg_ap, ret_ap, retN_ap, sif_ap, expr_ap, par_ap, par3_ap, asgT_ap, nil_ap, brk_ap, cnt_ap, give_val, give_own, give_ali, take_val, take_own, take_ali, ta_nil, ta_cons, pk_val, pk_own, pk_ali, pa_nil', pa_cons', var_ap, lit_ap, op_ap, un_ap, cb_ap, lc_ap, ln_ap, tup_ap, lst_ap, cv_ap, ck_ap, cl_ap, and_ap, or_ap, not_ap, eif_ap, bval_ap, bnot_ap, band_ap, bor_ap, gnam_ap, gtup_ap, gend_ap, gcons_ap, rng_ap, for_ap, loop_nil, setIx_ap, run_ap, M.ret, unpk, asB, back, retS, fit_of, sInt, sBl, fIx, fLen, fAbs, fInt, fList, Mi.isNon, fIsN, fNotN, fCmp, fLt, fLe, fGt, fGe, fAdd, fSub, fNeg, O.frz, Mi.pick, List.getElem?_cons_zero, List.getElem?_cons_succ, List.getElem?_nil, List.set_cons_zero, List.set_cons_succ, List.map_cons, List.map_nil, List.length_cons, List.length_nil, List.replicate_succ, List.replicate_zero, List.cons_append, List.nil_append, Option.map_some, Option.map_none, if_true, if_false, Bool.false_eq_true, Bool.not_true, Bool.not_false, decide_true, decide_false, reduceIte, ne_eq, not_true_eq_false, not_false_eq_true, List.getD_cons_zero, List.getD_cons_succ, Nat.reduceAdd, Nat.reduceSub, Nat.reduceLeDiff, Nat.reduceEqDiff, atI_0, atI_1, atI_2, lam_ap, append_ap, make_ap, setF_ap, own_ap, meth_ap, methD_ap, norm_val, norm_own, norm_ali, onMethD_ap, onMeth_val, onMeth_ali, lz_ap, raise_ap, try_ap, thunk_raw, thunk_exc, byes_ap, Mi.insAt, lendTo, hand, eChain, Mi.isL, onL, okFl]
theorem need_n {d w : D} (h : f_are_integers [.val d] = .ok (.val (.bl false), [.non])) : f_need_numbers [.val d, .val w] = .exc "BadNumber" [("part", w)] [.non, .non] := by
  simp only [f_need_numbers, m_need_numbers, h, bnd_ap, of_ap, seq_ap, asg_ap, ret_ap, retN_ap, sif_ap, expr_ap, par_ap, par3_ap, asgT_ap, nil_ap, brk_ap, cnt_ap, give_val, give_own, give_ali, take_val, take_own, take_ali, ta_nil, ta_cons, pk_val, pk_own, pk_ali, pa_nil', pa_cons', var_ap, lit_ap, op_ap, un_ap, cb_ap, lc_ap, ln_ap, tup_ap, lst_ap, cv_ap, ck_ap, cl_ap, and_ap, or_ap, not_ap, eif_ap, bval_ap, bnot_ap, band_ap, bor_ap, gnam_ap, gtup_ap, gend_ap, gcons_ap, rng_ap, for_ap, loop_nil, setIx_ap, run_ap, M.ret, unpk, asB, back, retS, fit_of, sInt, sBl, fIx, fLen, fAbs, fInt, fList, Mi.isNon, fIsN, fNotN, fCmp, fLt, fLe, fGt, fGe, fAdd, fSub, fNeg, O.frz, Mi.pick, List.getElem?_cons_zero, List.getElem?_cons_succ, List.getElem?_nil, List.set_cons_zero, List.set_cons_succ, List.map_cons, List.map_nil, List.length_cons, List.length_nil, List.replicate_succ, List.replicate_zero, List.cons_append, List.nil_append, Option.map_some, Option.map_none, if_true, if_false, Bool.false_eq_true, Bool.not_true, Bool.not_false, decide_true, decide_false, reduceIte, ne_eq, not_true_eq_false, not_false_eq_true, List.getD_cons_zero, List.getD_cons_succ, Nat.reduceAdd, Nat.reduceSub, Nat.reduceLeDiff, Nat.reduceEqDiff, atI_0, atI_1, atI_2, lam_ap, append_ap, make_ap, setF_ap, own_ap, meth_ap, methD_ap, norm_val, norm_own, norm_ali, onMethD_ap, onMeth_val, onMeth_ali, lz_ap, raise_ap, try_ap, thunk_raw, thunk_exc, byes_ap, Mi.insAt, lendTo, hand, eChain, Mi.isL, onL, okFl]
  rfl
theorem common_ok {d : D} {ns : List Int} (h : Seq d ns) (hl : ns.length ≤ 1000) : f_common_divisor [.val d] = .ok (.val (.int (gcdL ns)), [.non]) := by
  have e1 := need_y h hl
  have e2 := measure_ok h.items
  simp only [f_common_divisor, m_common_divisor, e1, e2, bnd_ap, of_ap, seq_ap, asg_ap, ret_ap, retN_ap, sif_ap, expr_ap, par_ap, par3_ap, asgT_ap, nil_ap, brk_ap, cnt_ap, give_val, give_own, give_ali, take_val, take_own, take_ali, ta_nil, ta_cons, pk_val, pk_own, pk_ali, pa_nil', pa_cons', var_ap, lit_ap, op_ap, un_ap, cb_ap, lc_ap, ln_ap, tup_ap, lst_ap, cv_ap, ck_ap, cl_ap, and_ap, or_ap, not_ap, eif_ap, bval_ap, bnot_ap, band_ap, bor_ap, gnam_ap, gtup_ap, gend_ap, gcons_ap, rng_ap, for_ap, loop_nil, setIx_ap, run_ap, M.ret, unpk, asB, back, retS, fit_of, sInt, sBl, fIx, fLen, fAbs, fInt, fList, Mi.isNon, fIsN, fNotN, fCmp, fLt, fLe, fGt, fGe, fAdd, fSub, fNeg, O.frz, Mi.pick, List.getElem?_cons_zero, List.getElem?_cons_succ, List.getElem?_nil, List.set_cons_zero, List.set_cons_succ, List.map_cons, List.map_nil, List.length_cons, List.length_nil, List.replicate_succ, List.replicate_zero, List.cons_append, List.nil_append, Option.map_some, Option.map_none, if_true, if_false, Bool.false_eq_true, Bool.not_true, Bool.not_false, decide_true, decide_false, reduceIte, ne_eq, not_true_eq_false, not_false_eq_true, List.getD_cons_zero, List.getD_cons_succ, Nat.reduceAdd, Nat.reduceSub, Nat.reduceLeDiff, Nat.reduceEqDiff, atI_0, atI_1, atI_2, lam_ap, append_ap, make_ap, setF_ap, own_ap, meth_ap, methD_ap, norm_val, norm_own, norm_ali, onMethD_ap, onMeth_val, onMeth_ali, lz_ap, raise_ap, try_ap, thunk_raw, thunk_exc, byes_ap, Mi.insAt, lendTo, hand, eChain, Mi.isL, onL, okFl]
theorem reduced_ok {d : D} {ns : List Int} (h : Seq d ns) (hl : ns.length ≤ 1000) (hb : gcdL ns < 2 ^ 900) : f_reduced [.val d] = .ok (.val (.tup ((rd ns).map .int)), [.non]) := by
  have e2 := measure_ok h.items
  have ft : fTuple [d] = some (.val (.tup (ns.map .int))) := by rcases h with rfl | rfl <;> rfl
  by_cases hz : gcdL ns = 0
  · have r : rd ns = ns := by unfold rd; rw [if_pos hz]
    have e0 : fEq (.int ((0 : Nat) : Int)) (.int 0) = some (.val (.bl true)) := by rw [Mi.eq_int]; rfl
    rw [hz] at e2
    rw [r]
    simp only [f_reduced, m_reduced, e2, e0, ft, bnd_ap, of_ap, seq_ap, asg_ap, ret_ap, retN_ap, sif_ap, expr_ap, par_ap, par3_ap, asgT_ap, nil_ap, brk_ap, cnt_ap, give_val, give_own, give_ali, take_val, take_own, take_ali, ta_nil, ta_cons, pk_val, pk_own, pk_ali, pa_nil', pa_cons', var_ap, lit_ap, op_ap, un_ap, cb_ap, lc_ap, ln_ap, tup_ap, lst_ap, cv_ap, ck_ap, cl_ap, and_ap, or_ap, not_ap, eif_ap, bval_ap, bnot_ap, band_ap, bor_ap, gnam_ap, gtup_ap, gend_ap, gcons_ap, rng_ap, for_ap, loop_nil, setIx_ap, run_ap, M.ret, unpk, asB, back, retS, fit_of, sInt, sBl, fIx, fLen, fAbs, fInt, fList, Mi.isNon, fIsN, fNotN, fCmp, fLt, fLe, fGt, fGe, fAdd, fSub, fNeg, O.frz, Mi.pick, List.getElem?_cons_zero, List.getElem?_cons_succ, List.getElem?_nil, List.set_cons_zero, List.set_cons_succ, List.map_cons, List.map_nil, List.length_cons, List.length_nil, List.replicate_succ, List.replicate_zero, List.cons_append, List.nil_append, Option.map_some, Option.map_none, if_true, if_false, Bool.false_eq_true, Bool.not_true, Bool.not_false, decide_true, decide_false, reduceIte, ne_eq, not_true_eq_false, not_false_eq_true, List.getD_cons_zero, List.getD_cons_succ, Nat.reduceAdd, Nat.reduceSub, Nat.reduceLeDiff, Nat.reduceEqDiff, atI_0, atI_1, atI_2, lam_ap, append_ap, make_ap, setF_ap, own_ap, meth_ap, methD_ap, norm_val, norm_own, norm_ali, onMethD_ap, onMeth_val, onMeth_ali, lz_ap, raise_ap, try_ap, thunk_raw, thunk_exc, byes_ap, Mi.insAt, lendTo, hand, eChain, Mi.isL, onL, okFl]
  · have e0 : fEq (.int (gcdL ns : Int)) (.int 0) = some (.val (.bl false)) := by rw [Mi.eq_int]; simp [hz]
    obtain ⟨r, er⟩ := nz_cons hz
    have c1 := ecompF (own := [2]) (mi := iSeq (eVar 0)) (g := gNam 2) (test := (bVal (eOp fNe (eVar 2) (eLit (.int 0))))) (me := eVar 2) ns D.int D.int (fun n => !(n == 0)) (τ := [.val d, .val (.int (gcdL ns)), .non]) (τ1 := [.val d, .val (.int (gcdL ns)), .non])
      (iseq_val d rfl h.items) rfl (fun n _ => ⟨[.val d, .val (.int (gcdL ns)), .val (.int n)], [.val d, .val (.int (gcdL ns)), .val (.int n)], rfl, by simp only [Mi.ne_int, bnd_ap, of_ap, seq_ap, asg_ap, ret_ap, retN_ap, sif_ap, expr_ap, par_ap, par3_ap, asgT_ap, nil_ap, brk_ap, cnt_ap, give_val, give_own, give_ali, take_val, take_own, take_ali, ta_nil, ta_cons, pk_val, pk_own, pk_ali, pa_nil', pa_cons', var_ap, lit_ap, op_ap, un_ap, cb_ap, lc_ap, ln_ap, tup_ap, lst_ap, cv_ap, ck_ap, cl_ap, and_ap, or_ap, not_ap, eif_ap, bval_ap, bnot_ap, band_ap, bor_ap, gnam_ap, gtup_ap, gend_ap, gcons_ap, rng_ap, for_ap, loop_nil, setIx_ap, run_ap, M.ret, unpk, asB, back, retS, fit_of, sInt, sBl, fIx, fLen, fAbs, fInt, fList, Mi.isNon, fIsN, fNotN, fCmp, fLt, fLe, fGt, fGe, fAdd, fSub, fNeg, O.frz, Mi.pick, List.getElem?_cons_zero, List.getElem?_cons_succ, List.getElem?_nil, List.set_cons_zero, List.set_cons_succ, List.map_cons, List.map_nil, List.length_cons, List.length_nil, List.replicate_succ, List.replicate_zero, List.cons_append, List.nil_append, Option.map_some, Option.map_none, if_true, if_false, Bool.false_eq_true, Bool.not_true, Bool.not_false, decide_true, decide_false, reduceIte, ne_eq, not_true_eq_false, not_false_eq_true, List.getD_cons_zero, List.getD_cons_succ, Nat.reduceAdd, Nat.reduceSub, Nat.reduceLeDiff, Nat.reduceEqDiff, atI_0, atI_1, atI_2, lam_ap, append_ap, make_ap, setF_ap, own_ap, meth_ap, methD_ap, norm_val, norm_own, norm_ali, onMethD_ap, onMeth_val, onMeth_ali, lz_ap, raise_ap, try_ap, thunk_raw, thunk_exc, byes_ap, Mi.insAt, lendTo, hand, eChain, Mi.isL, onL, okFl], fun _ => rfl, fun _ => ⟨_, rfl, rfl⟩⟩) hl rfl
    have c1' : (ns.filter fun n => !(n == 0)) = fs ns :: r := er
    rw [c1', List.map_cons] at c1
    have sb : (sg ns).natAbs < 2 ^ 1000 := by
      rw [sg_abs]
      exact Nat.lt_of_lt_of_le hb (Nat.pow_le_pow_right (by decide) (by decide))
    have dv := fun i => div_ok (i := i) (sg_ne hz) sb
    have c2 := ecompM (own := [2]) (mi := iSeq (eVar 0)) (g := gNam 2) (me := eOp fDiv (eVar 2) (eVar 1)) ns D.int (fun n => .int (n.fdiv (sg ns))) (τ := [.val d, .val (.int (sg ns)), .non]) (τ1 := [.val d, .val (.int (sg ns)), .non])
      (iseq_val d rfl h.items) rfl (fun n _ => ⟨[.val d, .val (.int (sg ns)), .val (.int n)], [.val d, .val (.int (sg ns)), .val (.int n)], rfl, by simp only [dv, bnd_ap, of_ap, seq_ap, asg_ap, ret_ap, retN_ap, sif_ap, expr_ap, par_ap, par3_ap, asgT_ap, nil_ap, brk_ap, cnt_ap, give_val, give_own, give_ali, take_val, take_own, take_ali, ta_nil, ta_cons, pk_val, pk_own, pk_ali, pa_nil', pa_cons', var_ap, lit_ap, op_ap, un_ap, cb_ap, lc_ap, ln_ap, tup_ap, lst_ap, cv_ap, ck_ap, cl_ap, and_ap, or_ap, not_ap, eif_ap, bval_ap, bnot_ap, band_ap, bor_ap, gnam_ap, gtup_ap, gend_ap, gcons_ap, rng_ap, for_ap, loop_nil, setIx_ap, run_ap, M.ret, unpk, asB, back, retS, fit_of, sInt, sBl, fIx, fLen, fAbs, fInt, fList, Mi.isNon, fIsN, fNotN, fCmp, fLt, fLe, fGt, fGe, fAdd, fSub, fNeg, O.frz, Mi.pick, List.getElem?_cons_zero, List.getElem?_cons_succ, List.getElem?_nil, List.set_cons_zero, List.set_cons_succ, List.map_cons, List.map_nil, List.length_cons, List.length_nil, List.replicate_succ, List.replicate_zero, List.cons_append, List.nil_append, Option.map_some, Option.map_none, if_true, if_false, Bool.false_eq_true, Bool.not_true, Bool.not_false, decide_true, decide_false, reduceIte, ne_eq, not_true_eq_false, not_false_eq_true, List.getD_cons_zero, List.getD_cons_succ, Nat.reduceAdd, Nat.reduceSub, Nat.reduceLeDiff, Nat.reduceEqDiff, atI_0, atI_1, atI_2, lam_ap, append_ap, make_ap, setF_ap, own_ap, meth_ap, methD_ap, norm_val, norm_own, norm_ali, onMethD_ap, onMeth_val, onMeth_ali, lz_ap, raise_ap, try_ap, thunk_raw, thunk_exc, byes_ap, Mi.insAt, lendTo, hand, eChain, Mi.isL, onL, okFl], rfl⟩) hl rfl
    have r2 : (rd ns).map D.int = ns.map fun n => D.int (n.fdiv (sg ns)) := by
      unfold rd
      rw [if_neg hz, List.map_map]
      rfl
    rw [r2]
    by_cases hs : fs ns < 0
    · have s : sg ns = -(gcdL ns : Int) := if_pos hs
      rw [s] at c2 ⊢
      simp only [f_reduced, m_reduced, e2, e0, c1, hs, c2, fTuple, bnd_ap, of_ap, seq_ap, asg_ap, ret_ap, retN_ap, sif_ap, expr_ap, par_ap, par3_ap, asgT_ap, nil_ap, brk_ap, cnt_ap, give_val, give_own, give_ali, take_val, take_own, take_ali, ta_nil, ta_cons, pk_val, pk_own, pk_ali, pa_nil', pa_cons', var_ap, lit_ap, op_ap, un_ap, cb_ap, lc_ap, ln_ap, tup_ap, lst_ap, cv_ap, ck_ap, cl_ap, and_ap, or_ap, not_ap, eif_ap, bval_ap, bnot_ap, band_ap, bor_ap, gnam_ap, gtup_ap, gend_ap, gcons_ap, rng_ap, for_ap, loop_nil, setIx_ap, run_ap, M.ret, unpk, asB, back, retS, fit_of, sInt, sBl, fIx, fLen, fAbs, fInt, fList, Mi.isNon, fIsN, fNotN, fCmp, fLt, fLe, fGt, fGe, fAdd, fSub, fNeg, O.frz, Mi.pick, List.getElem?_cons_zero, List.getElem?_cons_succ, List.getElem?_nil, List.set_cons_zero, List.set_cons_succ, List.map_cons, List.map_nil, List.length_cons, List.length_nil, List.replicate_succ, List.replicate_zero, List.cons_append, List.nil_append, Option.map_some, Option.map_none, if_true, if_false, Bool.false_eq_true, Bool.not_true, Bool.not_false, decide_true, decide_false, reduceIte, ne_eq, not_true_eq_false, not_false_eq_true, List.getD_cons_zero, List.getD_cons_succ, Nat.reduceAdd, Nat.reduceSub, Nat.reduceLeDiff, Nat.reduceEqDiff, atI_0, atI_1, atI_2, lam_ap, append_ap, make_ap, setF_ap, own_ap, meth_ap, methD_ap, norm_val, norm_own, norm_ali, onMethD_ap, onMeth_val, onMeth_ali, lz_ap, raise_ap, try_ap, thunk_raw, thunk_exc, byes_ap, Mi.insAt, lendTo, hand, eChain, Mi.isL, onL, okFl]
    · have s : sg ns = (gcdL ns : Int) := if_neg hs
      rw [s] at c2 ⊢
      simp only [f_reduced, m_reduced, e2, e0, c1, hs, c2, fTuple, bnd_ap, of_ap, seq_ap, asg_ap, ret_ap, retN_ap, sif_ap, expr_ap, par_ap, par3_ap, asgT_ap, nil_ap, brk_ap, cnt_ap, give_val, give_own, give_ali, take_val, take_own, take_ali, ta_nil, ta_cons, pk_val, pk_own, pk_ali, pa_nil', pa_cons', var_ap, lit_ap, op_ap, un_ap, cb_ap, lc_ap, ln_ap, tup_ap, lst_ap, cv_ap, ck_ap, cl_ap, and_ap, or_ap, not_ap, eif_ap, bval_ap, bnot_ap, band_ap, bor_ap, gnam_ap, gtup_ap, gend_ap, gcons_ap, rng_ap, for_ap, loop_nil, setIx_ap, run_ap, M.ret, unpk, asB, back, retS, fit_of, sInt, sBl, fIx, fLen, fAbs, fInt, fList, Mi.isNon, fIsN, fNotN, fCmp, fLt, fLe, fGt, fGe, fAdd, fSub, fNeg, O.frz, Mi.pick, List.getElem?_cons_zero, List.getElem?_cons_succ, List.getElem?_nil, List.set_cons_zero, List.set_cons_succ, List.map_cons, List.map_nil, List.length_cons, List.length_nil, List.replicate_succ, List.replicate_zero, List.cons_append, List.nil_append, Option.map_some, Option.map_none, if_true, if_false, Bool.false_eq_true, Bool.not_true, Bool.not_false, decide_true, decide_false, reduceIte, ne_eq, not_true_eq_false, not_false_eq_true, List.getD_cons_zero, List.getD_cons_succ, Nat.reduceAdd, Nat.reduceSub, Nat.reduceLeDiff, Nat.reduceEqDiff, atI_0, atI_1, atI_2, lam_ap, append_ap, make_ap, setF_ap, own_ap, meth_ap, methD_ap, norm_val, norm_own, norm_ali, onMethD_ap, onMeth_val, onMeth_ali, lz_ap, raise_ap, try_ap, thunk_raw, thunk_exc, byes_ap, Mi.insAt, lendTo, hand, eChain, Mi.isL, onL, okFl]
theorem primitive_ok {d : D} {ns : List Int} (h : Seq d ns) (hl : ns.length ≤ 1000) (hb : gcdL ns < 2 ^ 900) : f_primitive [.val d] = .ok (.val (.tup ((rd ns).map .int)), [.non]) := by
  have e1 := need_y h hl
  have e2 := reduced_ok h hl hb
  simp only [f_primitive, m_primitive, e1, e2, bnd_ap, of_ap, seq_ap, asg_ap, ret_ap, retN_ap, sif_ap, expr_ap, par_ap, par3_ap, asgT_ap, nil_ap, brk_ap, cnt_ap, give_val, give_own, give_ali, take_val, take_own, take_ali, ta_nil, ta_cons, pk_val, pk_own, pk_ali, pa_nil', pa_cons', var_ap, lit_ap, op_ap, un_ap, cb_ap, lc_ap, ln_ap, tup_ap, lst_ap, cv_ap, ck_ap, cl_ap, and_ap, or_ap, not_ap, eif_ap, bval_ap, bnot_ap, band_ap, bor_ap, gnam_ap, gtup_ap, gend_ap, gcons_ap, rng_ap, for_ap, loop_nil, setIx_ap, run_ap, M.ret, unpk, asB, back, retS, fit_of, sInt, sBl, fIx, fLen, fAbs, fInt, fList, Mi.isNon, fIsN, fNotN, fCmp, fLt, fLe, fGt, fGe, fAdd, fSub, fNeg, O.frz, Mi.pick, List.getElem?_cons_zero, List.getElem?_cons_succ, List.getElem?_nil, List.set_cons_zero, List.set_cons_succ, List.map_cons, List.map_nil, List.length_cons, List.length_nil, List.replicate_succ, List.replicate_zero, List.cons_append, List.nil_append, Option.map_some, Option.map_none, if_true, if_false, Bool.false_eq_true, Bool.not_true, Bool.not_false, decide_true, decide_false, reduceIte, ne_eq, not_true_eq_false, not_false_eq_true, List.getD_cons_zero, List.getD_cons_succ, Nat.reduceAdd, Nat.reduceSub, Nat.reduceLeDiff, Nat.reduceEqDiff, atI_0, atI_1, atI_2, lam_ap, append_ap, make_ap, setF_ap, own_ap, meth_ap, methD_ap, norm_val, norm_own, norm_ali, onMethD_ap, onMeth_val, onMeth_ali, lz_ap, raise_ap, try_ap, thunk_raw, thunk_exc, byes_ap, Mi.insAt, lendTo, hand, eChain, Mi.isL, onL, okFl]
def prB (ns : List Int) : Bool := gcdL ns == 1 && decide (0 < fs ns)
theorem isprim_ok {d : D} {ns : List Int} (h : Seq d ns) (hl : ns.length ≤ 1000) : f_is_primitive [.val d] = .ok (.val (.bl (prB ns)), [.non]) := by
  have e1 := h.are hl
  have e2 := measure_ok h.items
  by_cases h1 : gcdL ns = 1
  · obtain ⟨r, er⟩ := nz_cons (ns := ns) (by omega)
    have c1 := ecompF (own := [1]) (mi := iSeq (eVar 0)) (g := gNam 1) (test := (bVal (eOp fNe (eVar 1) (eLit (.int 0))))) (me := eVar 1) ns D.int D.int (fun n => !(n == 0)) (τ := [.val d, .non]) (τ1 := [.val d, .non])
      (iseq_val d rfl h.items) rfl (fun n _ => ⟨[.val d, .val (.int n)], [.val d, .val (.int n)], rfl, by simp only [Mi.ne_int, bnd_ap, of_ap, seq_ap, asg_ap, ret_ap, retN_ap, sif_ap, expr_ap, par_ap, par3_ap, asgT_ap, nil_ap, brk_ap, cnt_ap, give_val, give_own, give_ali, take_val, take_own, take_ali, ta_nil, ta_cons, pk_val, pk_own, pk_ali, pa_nil', pa_cons', var_ap, lit_ap, op_ap, un_ap, cb_ap, lc_ap, ln_ap, tup_ap, lst_ap, cv_ap, ck_ap, cl_ap, and_ap, or_ap, not_ap, eif_ap, bval_ap, bnot_ap, band_ap, bor_ap, gnam_ap, gtup_ap, gend_ap, gcons_ap, rng_ap, for_ap, loop_nil, setIx_ap, run_ap, M.ret, unpk, asB, back, retS, fit_of, sInt, sBl, fIx, fLen, fAbs, fInt, fList, Mi.isNon, fIsN, fNotN, fCmp, fLt, fLe, fGt, fGe, fAdd, fSub, fNeg, O.frz, Mi.pick, List.getElem?_cons_zero, List.getElem?_cons_succ, List.getElem?_nil, List.set_cons_zero, List.set_cons_succ, List.map_cons, List.map_nil, List.length_cons, List.length_nil, List.replicate_succ, List.replicate_zero, List.cons_append, List.nil_append, Option.map_some, Option.map_none, if_true, if_false, Bool.false_eq_true, Bool.not_true, Bool.not_false, decide_true, decide_false, reduceIte, ne_eq, not_true_eq_false, not_false_eq_true, List.getD_cons_zero, List.getD_cons_succ, Nat.reduceAdd, Nat.reduceSub, Nat.reduceLeDiff, Nat.reduceEqDiff, atI_0, atI_1, atI_2, lam_ap, append_ap, make_ap, setF_ap, own_ap, meth_ap, methD_ap, norm_val, norm_own, norm_ali, onMethD_ap, onMeth_val, onMeth_ali, lz_ap, raise_ap, try_ap, thunk_raw, thunk_exc, byes_ap, Mi.insAt, lendTo, hand, eChain, Mi.isL, onL, okFl], fun _ => rfl, fun _ => ⟨_, rfl, rfl⟩⟩) hl rfl
    have c1' : (ns.filter fun n => !(n == 0)) = fs ns :: r := er
    rw [c1', List.map_cons] at c1
    rw [h1] at e2
    have p : prB ns = decide (0 < fs ns) := by unfold prB; rw [h1]; rfl
    have e0 : fEq (.int ((1 : Nat) : Int)) (.int 1) = some (.val (.bl true)) := by rw [Mi.eq_int]; rfl
    rw [p]
    simp only [f_is_primitive, m_is_primitive, e1, e2, e0, c1, bnd_ap, of_ap, seq_ap, asg_ap, ret_ap, retN_ap, sif_ap, expr_ap, par_ap, par3_ap, asgT_ap, nil_ap, brk_ap, cnt_ap, give_val, give_own, give_ali, take_val, take_own, take_ali, ta_nil, ta_cons, pk_val, pk_own, pk_ali, pa_nil', pa_cons', var_ap, lit_ap, op_ap, un_ap, cb_ap, lc_ap, ln_ap, tup_ap, lst_ap, cv_ap, ck_ap, cl_ap, and_ap, or_ap, not_ap, eif_ap, bval_ap, bnot_ap, band_ap, bor_ap, gnam_ap, gtup_ap, gend_ap, gcons_ap, rng_ap, for_ap, loop_nil, setIx_ap, run_ap, M.ret, unpk, asB, back, retS, fit_of, sInt, sBl, fIx, fLen, fAbs, fInt, fList, Mi.isNon, fIsN, fNotN, fCmp, fLt, fLe, fGt, fGe, fAdd, fSub, fNeg, O.frz, Mi.pick, List.getElem?_cons_zero, List.getElem?_cons_succ, List.getElem?_nil, List.set_cons_zero, List.set_cons_succ, List.map_cons, List.map_nil, List.length_cons, List.length_nil, List.replicate_succ, List.replicate_zero, List.cons_append, List.nil_append, Option.map_some, Option.map_none, if_true, if_false, Bool.false_eq_true, Bool.not_true, Bool.not_false, decide_true, decide_false, reduceIte, ne_eq, not_true_eq_false, not_false_eq_true, List.getD_cons_zero, List.getD_cons_succ, Nat.reduceAdd, Nat.reduceSub, Nat.reduceLeDiff, Nat.reduceEqDiff, atI_0, atI_1, atI_2, lam_ap, append_ap, make_ap, setF_ap, own_ap, meth_ap, methD_ap, norm_val, norm_own, norm_ali, onMethD_ap, onMeth_val, onMeth_ali, lz_ap, raise_ap, try_ap, thunk_raw, thunk_exc, byes_ap, Mi.insAt, lendTo, hand, eChain, Mi.isL, onL, okFl]
  · have e0 : fEq (.int (gcdL ns : Int)) (.int 1) = some (.val (.bl false)) := by
      rw [Mi.eq_int]
      have : ((gcdL ns : Int) == 1) = false := by simp; omega
      rw [this]
    have p : prB ns = false := by unfold prB; simp [h1]
    rw [p]
    simp only [f_is_primitive, m_is_primitive, e1, e2, e0, bnd_ap, of_ap, seq_ap, asg_ap, ret_ap, retN_ap, sif_ap, expr_ap, par_ap, par3_ap, asgT_ap, nil_ap, brk_ap, cnt_ap, give_val, give_own, give_ali, take_val, take_own, take_ali, ta_nil, ta_cons, pk_val, pk_own, pk_ali, pa_nil', pa_cons', var_ap, lit_ap, op_ap, un_ap, cb_ap, lc_ap, ln_ap, tup_ap, lst_ap, cv_ap, ck_ap, cl_ap, and_ap, or_ap, not_ap, eif_ap, bval_ap, bnot_ap, band_ap, bor_ap, gnam_ap, gtup_ap, gend_ap, gcons_ap, rng_ap, for_ap, loop_nil, setIx_ap, run_ap, M.ret, unpk, asB, back, retS, fit_of, sInt, sBl, fIx, fLen, fAbs, fInt, fList, Mi.isNon, fIsN, fNotN, fCmp, fLt, fLe, fGt, fGe, fAdd, fSub, fNeg, O.frz, Mi.pick, List.getElem?_cons_zero, List.getElem?_cons_succ, List.getElem?_nil, List.set_cons_zero, List.set_cons_succ, List.map_cons, List.map_nil, List.length_cons, List.length_nil, List.replicate_succ, List.replicate_zero, List.cons_append, List.nil_append, Option.map_some, Option.map_none, if_true, if_false, Bool.false_eq_true, Bool.not_true, Bool.not_false, decide_true, decide_false, reduceIte, ne_eq, not_true_eq_false, not_false_eq_true, List.getD_cons_zero, List.getD_cons_succ, Nat.reduceAdd, Nat.reduceSub, Nat.reduceLeDiff, Nat.reduceEqDiff, atI_0, atI_1, atI_2, lam_ap, append_ap, make_ap, setF_ap, own_ap, meth_ap, methD_ap, norm_val, norm_own, norm_ali, onMethD_ap, onMeth_val, onMeth_ali, lz_ap, raise_ap, try_ap, thunk_raw, thunk_exc, byes_ap, Mi.insAt, lendTo, hand, eChain, Mi.isL, onL, okFl]
theorem isprim_no {d : D} (h : f_are_integers [.val d] = .ok (.val (.bl false), [.non])) : f_is_primitive [.val d] = .ok (.val (.bl false), [.non]) := by
  simp only [f_is_primitive, m_is_primitive, h, bnd_ap, of_ap, seq_ap, asg_ap, ret_ap, retN_ap, sif_ap, expr_ap, par_ap, par3_ap, asgT_ap, nil_ap, brk_ap, cnt_ap, give_val, give_own, give_ali, take_val, take_own, take_ali, ta_nil, ta_cons, pk_val, pk_own, pk_ali, pa_nil', pa_cons', var_ap, lit_ap, op_ap, un_ap, cb_ap, lc_ap, ln_ap, tup_ap, lst_ap, cv_ap, ck_ap, cl_ap, and_ap, or_ap, not_ap, eif_ap, bval_ap, bnot_ap, band_ap, bor_ap, gnam_ap, gtup_ap, gend_ap, gcons_ap, rng_ap, for_ap, loop_nil, setIx_ap, run_ap, M.ret, unpk, asB, back, retS, fit_of, sInt, sBl, fIx, fLen, fAbs, fInt, fList, Mi.isNon, fIsN, fNotN, fCmp, fLt, fLe, fGt, fGe, fAdd, fSub, fNeg, O.frz, Mi.pick, List.getElem?_cons_zero, List.getElem?_cons_succ, List.getElem?_nil, List.set_cons_zero, List.set_cons_succ, List.map_cons, List.map_nil, List.length_cons, List.length_nil, List.replicate_succ, List.replicate_zero, List.cons_append, List.nil_append, Option.map_some, Option.map_none, if_true, if_false, Bool.false_eq_true, Bool.not_true, Bool.not_false, decide_true, decide_false, reduceIte, ne_eq, not_true_eq_false, not_false_eq_true, List.getD_cons_zero, List.getD_cons_succ, Nat.reduceAdd, Nat.reduceSub, Nat.reduceLeDiff, Nat.reduceEqDiff, atI_0, atI_1, atI_2, lam_ap, append_ap, make_ap, setF_ap, own_ap, meth_ap, methD_ap, norm_val, norm_own, norm_ali, onMethD_ap, onMeth_val, onMeth_ali, lz_ap, raise_ap, try_ap, thunk_raw, thunk_exc, byes_ap, Mi.insAt, lendTo, hand, eChain, Mi.isL, onL, okFl]
end K01

namespace K01
open PySem PySem.Spec PyProof.Rows L2 Mi
/-! #### divisors right -/
theorem nt_f {c : M Bool} {τ τ1 : List Mi.S} (h : c τ = .ok (true, τ1)) : bNot c τ = .ok (false, τ1) := nt h
theorem same_t {a b : Bool} {ma mb : M Mi.S} {τ τ1 τ2 : List Mi.S} (h1 : ma τ = .ok (.val (.bl a), τ1)) (h2 : mb τ1 = .ok (.val (.bl b), τ2)) (h : a = b) : eCallV f__law_same (lCons ma (lCons mb lNil)) τ = .ok (.val (.bl true), τ2) := by
  rw [same_2 h1 h2, h, beq_self_eq_true]
theorem zip_its {xs ys : List Int} : List.zipWith pairD (xs.map D.int) (ys.map D.int) = (xs.zip ys).map fun p => D.tup [.int p.1, .int p.2] := by
  induction xs generalizing ys with
  | nil => rfl
  | cons x xs ih =>
    cases ys with
    | nil => rfl
    | cons y ys =>
      simp only [List.map_cons, List.zipWith_cons_cons, List.zip_cons_cons, ih]
      rfl
theorem atI_app {ns : List Int} : atI ((nz ns).map D.int ++ [.int 0]) 0 = some (.int (fs ns)) := by
  unfold fs
  cases nz ns with
  | nil => rfl
  | cons x r => rw [List.map_cons, List.cons_append, atI_0]; rfl
theorem zip_ok {ns : List Int} : ∀ p ∈ (rd ns).zip ns, p.1 * (gcdL ns : Int) * (if 0 < fs ns then 1 else -1) = p.2 := by
  intro p hp
  by_cases hz : gcdL ns = 0
  · have z := gcdL_zero hz p.2 (List.of_mem_zip hp).2
    rw [hz, z]; simp
  · have e := rd_spec hz
    have f0 : fs ns ≠ 0 := fun z => hz (fs_zero.mp z)
    have hs : sg ns = (gcdL ns : Int) * (if 0 < fs ns then 1 else -1) := by
      unfold sg
      by_cases q : fs ns < 0
      · rw [if_pos q, if_neg (by omega)]; omega
      · rw [if_neg q, if_pos (by omega)]; omega
    have go : ∀ (ks : List Int) (t : Int), ∀ p ∈ ks.zip (ks.map fun k => t * k), t * p.1 = p.2 := fun ks t => by
      induction ks with
      | nil => intro p hp; cases hp
      | cons k ks ih =>
        intro p hp
        rw [List.map_cons, List.zip_cons_cons] at hp
        rcases List.mem_cons.mp hp with rfl | hp
        · rfl
        · exact ih p hp
    have hp2 : p ∈ (rd ns).zip ((rd ns).map fun k => sg ns * k) := by
      rw [← e]; exact hp
    have := go _ _ p hp2
    rw [← this, hs, Int.mul_assoc, Int.mul_comm]
theorem eqT_self (xs : List Int) : fNe (.tup (xs.map .int)) (.tup (xs.map .int)) = some (.val (.bl false)) := fNe_self (n := 1) (.tup pl_ints) (by decide)
def oddL : List D := [D.non, .str "1", .dic [(.inl 1, .int 1)], .lst [.bl true], .lst [.int 1, .bl true], .lst [.non], .lst [.str "1"], .int 1, .tup [.tup [.int 1]], .lst [], .lst [.int 0], .tup [.int 0, .int 0], .lst [.int 2, .int 4], .lst [.int (-1), .int 2], .lst [.int 0, .int (-3), .int 2]]
theorem are_no {d : D} (h : tgd d = true) (hx : ∀ xs, seqD d = some xs → xs.length ≤ 1000 ∧ xs.all tgd = true) (hn : areI d = false) : f_are_integers [.val d] = .ok (.val (.bl false), [.non]) := by
  rw [are_ok h fun xs e => ⟨(hx xs e).1, fun x hx' => List.all_eq_true.mp (hx xs e).2 x hx'⟩, hn]
theorem oddL_prim {d : D} (h : d ∈ oddL) : f_is_primitive [.val d] = .ok (.val (.bl false), [.non]) := by
  simp only [oddL, List.mem_cons, List.not_mem_nil, or_false] at h
  have seq : ∀ ns : List Int, ns.length ≤ 1000 → prB ns = false → f_is_primitive [.val (.lst (ns.map .int))] = .ok (.val (.bl false), [.non]) ∧ f_is_primitive [.val (.tup (ns.map .int))] = .ok (.val (.bl false), [.non]) := fun ns hl hp => by
    have a := isprim_ok (d := .lst (ns.map .int)) (.inl rfl) hl
    have b := isprim_ok (d := .tup (ns.map .int)) (.inr rfl) hl
    rw [hp] at a b
    exact ⟨a, b⟩
  rcases h with rfl | rfl | rfl | rfl | rfl | rfl | rfl | rfl | rfl | rfl | rfl | rfl | rfl | rfl | rfl
  · exact isprim_no (are_no rfl (fun xs e => by cases e) rfl)
  · exact isprim_no (are_no rfl (fun xs e => by cases e) rfl)
  · exact isprim_no (are_no rfl (fun xs e => by cases e) rfl)
  · exact isprim_no (are_no rfl (fun xs e => by cases e; exact ⟨by decide, rfl⟩) rfl)
  · exact isprim_no (are_no rfl (fun xs e => by cases e; exact ⟨by decide, rfl⟩) rfl)
  · exact isprim_no (are_no rfl (fun xs e => by cases e; exact ⟨by decide, rfl⟩) rfl)
  · exact isprim_no (are_no rfl (fun xs e => by cases e; exact ⟨by decide, rfl⟩) rfl)
  · exact isprim_no (are_no rfl (fun xs e => by cases e) rfl)
  · exact isprim_no (are_no rfl (fun xs e => by cases e; exact ⟨by decide, rfl⟩) rfl)
  · exact (seq [] (by decide) (by decide)).1
  · exact (seq [0] (by decide) (by decide)).1
  · exact (seq [0, 0] (by decide) (by decide)).2
  · exact (seq [2, 4] (by decide) (by decide)).1
  · exact (seq [-1, 2] (by decide) (by decide)).1
  · exact (seq [0, -3, 2] (by decide) (by decide)).1
theorem p17 : fPow (.int 10) (.int 17) = some (.val (.int (10 ^ 17))) := by
  rw [pow_ok (by decide) (by decide) (by decide)]
  rfl
theorem fMul_b {i j : Int} (h : i.natAbs < 2 ^ 60) : fMul (.int i) (.int j) = some (.val (.int (i * j))) := mul_l h
theorem divisors_right_v {o : O} {k : Nat} (h : VS o k) (hk : k < 800000) : ∃ o', f__law_divisors_right [.lent 0 o] = .ok (.val (.bl true), [.lent 0 o']) ∧ VS o' (k + 40) := by
  obtain ⟨s, o1, e1, a1, b1, v1⟩ := dip_v (many := 12) h (by omega) (by decide) (by decide)
  obtain ⟨v, o5, e5, a5, b5, v5⟩ := dip_v (many := 5) v1 (by omega) (by decide) (by decide)
  have rg := rng_ok (v := v) (by omega) a5
  have rl := rng_len v
  obtain ⟨ys, o6, e6, l6, g6, v6⟩ := draw_comp (own := [3]) (mi := iRng ranged1 (lCons (eCallL f__law_dip (lCons (eVar 0) (lCons (eLit (.int 5)) (lNil)))) (lNil))) (g := gNam 3) (me := eOp fMul (eOp fSub (eCallL f__law_dip (lCons (eVar 0) (lCons (eLit (.int 13)) (lNil)))) (eLit (.int 6))) (eVar 1)) (its := rangeD 0 v)
    (τ := [.lent 0 o1, .val (.int s), .non, .non, .non, .non, .non, .non, .non, .non, .non, .non, .non]) (τ1 := [.lent 0 o5, .val (.int s), .non, .non, .non, .non, .non, .non, .non, .non, .non, .non, .non]) (rest := [.val (.int s), .non, .non, .non, .non, .non, .non, .non, .non, .non, .non, .non]) VS (fun y => ∃ i : Int, y = .int i ∧ (i.natAbs : Int) ≤ 66) 1 (by simp only [e5, rg, lendTo, hand, bnd_ap, of_ap, seq_ap, asg_ap, ret_ap, retN_ap, sif_ap, expr_ap, par_ap, par3_ap, asgT_ap, nil_ap, brk_ap, cnt_ap, give_val, give_own, give_ali, take_val, take_own, take_ali, ta_nil, ta_cons, pk_val, pk_own, pk_ali, pa_nil', pa_cons', var_ap, lit_ap, op_ap, un_ap, cb_ap, lc_ap, ln_ap, tup_ap, lst_ap, cv_ap, ck_ap, cl_ap, and_ap, or_ap, not_ap, eif_ap, bval_ap, bnot_ap, band_ap, bor_ap, gnam_ap, gtup_ap, gend_ap, gcons_ap, rng_ap, for_ap, loop_nil, setIx_ap, run_ap, M.ret, unpk, asB, back, retS, fit_of, sInt, sBl, fIx, fLen, fAbs, fInt, fList, Mi.isNon, fIsN, fNotN, fCmp, fLt, fLe, fGt, fGe, fAdd, fSub, fNeg, O.frz, Mi.pick, List.getElem?_cons_zero, List.getElem?_cons_succ, List.getElem?_nil, List.set_cons_zero, List.set_cons_succ, List.map_cons, List.map_nil, List.length_cons, List.length_nil, List.replicate_succ, List.replicate_zero, List.cons_append, List.nil_append, Option.map_some, Option.map_none, if_true, if_false, Bool.false_eq_true, Bool.not_true, Bool.not_false, decide_true, decide_false, reduceIte, ne_eq, not_true_eq_false, not_false_eq_true, List.getD_cons_zero, List.getD_cons_succ, Nat.reduceAdd, Nat.reduceSub, Nat.reduceLeDiff, Nat.reduceEqDiff, atI_0, atI_1, atI_2, lam_ap, append_ap, make_ap, setF_ap, own_ap, meth_ap, methD_ap, norm_val, norm_own, norm_ali, onMethD_ap, onMeth_val, onMeth_ali, lz_ap, raise_ap, try_ap, thunk_raw, thunk_exc, byes_ap, Mi.insAt, lendTo, hand, eChain, Mi.isL, onL, okFl]) rfl o5 (k + 1 + 1) rfl v5 (fun x hx o q hq ho => by
      rw [rl] at hq
      obtain ⟨j, o7, e7, a7, b7, v7⟩ := dip_v (many := 13) ho (by omega) (by decide) (by decide)
      have w := mul_l (i := j - 6) (j := s) (by omega)
      refine ⟨.int ((j - 6) * s), o7, [.lent 0 o, .val (.int s), .non, .val x, .non, .non, .non, .non, .non, .non, .non, .non, .non], [.lent 0 o7, .val (.int s), .non, .val x, .non, .non, .non, .non, .non, .non, .non, .non, .non], rfl, by simp only [e7, w, lendTo, hand, bnd_ap, of_ap, seq_ap, asg_ap, ret_ap, retN_ap, sif_ap, expr_ap, par_ap, par3_ap, asgT_ap, nil_ap, brk_ap, cnt_ap, give_val, give_own, give_ali, take_val, take_own, take_ali, ta_nil, ta_cons, pk_val, pk_own, pk_ali, pa_nil', pa_cons', var_ap, lit_ap, op_ap, un_ap, cb_ap, lc_ap, ln_ap, tup_ap, lst_ap, cv_ap, ck_ap, cl_ap, and_ap, or_ap, not_ap, eif_ap, bval_ap, bnot_ap, band_ap, bor_ap, gnam_ap, gtup_ap, gend_ap, gcons_ap, rng_ap, for_ap, loop_nil, setIx_ap, run_ap, M.ret, unpk, asB, back, retS, fit_of, sInt, sBl, fIx, fLen, fAbs, fInt, fList, Mi.isNon, fIsN, fNotN, fCmp, fLt, fLe, fGt, fGe, fAdd, fSub, fNeg, O.frz, Mi.pick, List.getElem?_cons_zero, List.getElem?_cons_succ, List.getElem?_nil, List.set_cons_zero, List.set_cons_succ, List.map_cons, List.map_nil, List.length_cons, List.length_nil, List.replicate_succ, List.replicate_zero, List.cons_append, List.nil_append, Option.map_some, Option.map_none, if_true, if_false, Bool.false_eq_true, Bool.not_true, Bool.not_false, decide_true, decide_false, reduceIte, ne_eq, not_true_eq_false, not_false_eq_true, List.getD_cons_zero, List.getD_cons_succ, Nat.reduceAdd, Nat.reduceSub, Nat.reduceLeDiff, Nat.reduceEqDiff, atI_0, atI_1, atI_2, lam_ap, append_ap, make_ap, setF_ap, own_ap, meth_ap, methD_ap, norm_val, norm_own, norm_ali, onMethD_ap, onMeth_val, onMeth_ali, lz_ap, raise_ap, try_ap, thunk_raw, thunk_exc, byes_ap, Mi.insAt, lendTo, hand, eChain, Mi.isL, onL, okFl], rfl, ⟨_, rfl, ?_⟩, v7⟩
      rw [Int.natAbs_mul]
      have := Nat.mul_le_mul (show (j - 6).natAbs ≤ 6 by omega) (show s.natAbs ≤ 11 by omega)
      omega) (by rw [rl]; omega) (fun o o' => rfl)
  obtain ⟨ns, rfl, bn⟩ := ints_of g6
  rw [rl, List.length_map] at l6
  rw [rl] at v6
  have ll : ns.length ≤ 5 := by omega
  obtain ⟨gr, o8, e8, a8, b8, v8⟩ := dip_v (many := 10 ^ 17) v6 (by omega) (by decide) (by decide)
  obtain ⟨od, o9, e9, m9, v9⟩ := pick_v (xs := oddL) v8 (by omega) (by decide) (by decide)
  refine ⟨o9, ?_, v9.up (by omega)⟩
  obtain ⟨g, hg⟩ : ∃ g, g = gcdL ns := ⟨_, rfl⟩
  have gb : g ≤ 66 := by
    rw [hg]
    by_cases hz : gcdL ns = 0
    · omega
    · have f0 : fs ns ≠ 0 := fun z => hz (fs_zero.mp z)
      have d := gcdL_dvd (fs_mem f0)
      have := Nat.le_of_dvd (by omega) d
      have := bn _ (fs_mem f0)
      omega
  have cd := common_ok (d := .lst (ns.map .int)) (.inl rfl) (by omega)
  have lm := lawmeasure_ok (ns := ns) (fun n hn => by have := bn n hn; omega) (by omega)
  have cr := common_ok (d := .tup ((ns.map .int).reverse)) (ns := ns.reverse) (.inr (by rw [List.map_reverse])) (by rw [List.length_reverse]; omega)
  rw [gcdL_rev] at cr
  have pr := primitive_ok (d := .lst (ns.map .int)) (.inl rfl) (by omega) (by rw [← hg]; exact Nat.lt_of_le_of_lt gb (by decide +kernel))
  rw [← hg] at cd lm cr
  have ng : fNe (.int (g : Int)) (.int (g : Int)) = some (.val (.bl false)) := by rw [Mi.ne_int, beq_self_eq_true]; rfl
  have ig := int_any (d := .int (g : Int)) rfl
  have ig1 : isI (.int (g : Int)) = true := rfl
  rw [ig1] at ig
  obtain ⟨F, hF⟩ : ∃ F, F = fs ns := ⟨_, rfl⟩
  obtain ⟨RD, hRD⟩ : ∃ RD, RD = rd ns := ⟨_, rfl⟩
  rw [← hRD] at pr
  have lRD : RD.length = ns.length := by rw [hRD, rd_len]
  obtain ⟨G, hG⟩ : ∃ G, G = 10 ^ 17 + gr := ⟨_, rfl⟩
  have Gp : 0 < G := by omega
  have Gb : G.natAbs < 2 ^ 60 := by omega
  rw [f__law_divisors_right]
  refine run_1 (τ := [.lent 0 o9, .val (.int s), .val (.lst (ns.map .int)), .non, .val (.int g), .val (.int g), .val (.tup (RD.map .int)), .val (.int F), .non, .non, .non, .val (.int G), .val od]) rfl ?_ rfl rfl
  show m__law_divisors_right [.lent 0 o, .non, .non, .non, .non, .non, .non, .non, .non, .non, .non, .non, .non] = _
  unfold m__law_divisors_right
  refine at_seq (τ1 := [.lent 0 o1, .val (.int s), .non, .non, .non, .non, .non, .non, .non, .non, .non, .non, .non]) (by simp only [e1, lendTo, hand, bnd_ap, of_ap, seq_ap, asg_ap, ret_ap, retN_ap, sif_ap, expr_ap, par_ap, par3_ap, asgT_ap, nil_ap, brk_ap, cnt_ap, give_val, give_own, give_ali, take_val, take_own, take_ali, ta_nil, ta_cons, pk_val, pk_own, pk_ali, pa_nil', pa_cons', var_ap, lit_ap, op_ap, un_ap, cb_ap, lc_ap, ln_ap, tup_ap, lst_ap, cv_ap, ck_ap, cl_ap, and_ap, or_ap, not_ap, eif_ap, bval_ap, bnot_ap, band_ap, bor_ap, gnam_ap, gtup_ap, gend_ap, gcons_ap, rng_ap, for_ap, loop_nil, setIx_ap, run_ap, M.ret, unpk, asB, back, retS, fit_of, sInt, sBl, fIx, fLen, fAbs, fInt, fList, Mi.isNon, fIsN, fNotN, fCmp, fLt, fLe, fGt, fGe, fAdd, fSub, fNeg, O.frz, Mi.pick, List.getElem?_cons_zero, List.getElem?_cons_succ, List.getElem?_nil, List.set_cons_zero, List.set_cons_succ, List.map_cons, List.map_nil, List.length_cons, List.length_nil, List.replicate_succ, List.replicate_zero, List.cons_append, List.nil_append, Option.map_some, Option.map_none, if_true, if_false, Bool.false_eq_true, Bool.not_true, Bool.not_false, decide_true, decide_false, reduceIte, ne_eq, not_true_eq_false, not_false_eq_true, List.getD_cons_zero, List.getD_cons_succ, Nat.reduceAdd, Nat.reduceSub, Nat.reduceLeDiff, Nat.reduceEqDiff, atI_0, atI_1, atI_2, lam_ap, append_ap, make_ap, setF_ap, own_ap, meth_ap, methD_ap, norm_val, norm_own, norm_ali, onMethD_ap, onMeth_val, onMeth_ali, lz_ap, raise_ap, try_ap, thunk_raw, thunk_exc, byes_ap, Mi.insAt, lendTo, hand, eChain, Mi.isL, onL, okFl]) ?_
  have rt : restT [3] [.lent 0 o5, .val (.int s), .non, .non, .non, .non, .non, .non, .non, .non, .non, .non, .non] (.lent 0 o6 :: [.val (.int s), .non, .non, .non, .non, .non, .non, .non, .non, .non, .non, .non]) = [.lent 0 o6, .val (.int s), .non, .non, .non, .non, .non, .non, .non, .non, .non, .non, .non] := rfl
  rw [rt] at e6
  refine at_seq (asg_o e6) ?_
  refine at_seq (τ1 := [.lent 0 o6, .val (.int s), .val (.lst (ns.map .int)), .non, .val (.int g), .val (.int g), .non, .non, .non, .non, .non, .non, .non]) (by simp only [cd, lm, bnd_ap, of_ap, seq_ap, asg_ap, ret_ap, retN_ap, sif_ap, expr_ap, par_ap, par3_ap, asgT_ap, nil_ap, brk_ap, cnt_ap, give_val, give_own, give_ali, take_val, take_own, take_ali, ta_nil, ta_cons, pk_val, pk_own, pk_ali, pa_nil', pa_cons', var_ap, lit_ap, op_ap, un_ap, cb_ap, lc_ap, ln_ap, tup_ap, lst_ap, cv_ap, ck_ap, cl_ap, and_ap, or_ap, not_ap, eif_ap, bval_ap, bnot_ap, band_ap, bor_ap, gnam_ap, gtup_ap, gend_ap, gcons_ap, rng_ap, for_ap, loop_nil, setIx_ap, run_ap, M.ret, unpk, asB, back, retS, fit_of, sInt, sBl, fIx, fLen, fAbs, fInt, fList, Mi.isNon, fIsN, fNotN, fCmp, fLt, fLe, fGt, fGe, fAdd, fSub, fNeg, O.frz, Mi.pick, List.getElem?_cons_zero, List.getElem?_cons_succ, List.getElem?_nil, List.set_cons_zero, List.set_cons_succ, List.map_cons, List.map_nil, List.length_cons, List.length_nil, List.replicate_succ, List.replicate_zero, List.cons_append, List.nil_append, Option.map_some, Option.map_none, if_true, if_false, Bool.false_eq_true, Bool.not_true, Bool.not_false, decide_true, decide_false, reduceIte, ne_eq, not_true_eq_false, not_false_eq_true, List.getD_cons_zero, List.getD_cons_succ, Nat.reduceAdd, Nat.reduceSub, Nat.reduceLeDiff, Nat.reduceEqDiff, atI_0, atI_1, atI_2, lam_ap, append_ap, make_ap, setF_ap, own_ap, meth_ap, methD_ap, norm_val, norm_own, norm_ali, onMethD_ap, onMeth_val, onMeth_ali, lz_ap, raise_ap, try_ap, thunk_raw, thunk_exc, byes_ap, Mi.insAt, lendTo, hand, eChain, Mi.isL, onL, okFl]) ?_
  refine at_seq (τ1 := [.lent 0 o6, .val (.int s), .val (.lst (ns.map .int)), .non, .val (.int g), .val (.int g), .non, .non, .non, .non, .non, .non, .non]) (by simp only [ng, fRev, fTuple, cr, ig, bnd_ap, of_ap, seq_ap, asg_ap, ret_ap, retN_ap, sif_ap, expr_ap, par_ap, par3_ap, asgT_ap, nil_ap, brk_ap, cnt_ap, give_val, give_own, give_ali, take_val, take_own, take_ali, ta_nil, ta_cons, pk_val, pk_own, pk_ali, pa_nil', pa_cons', var_ap, lit_ap, op_ap, un_ap, cb_ap, lc_ap, ln_ap, tup_ap, lst_ap, cv_ap, ck_ap, cl_ap, and_ap, or_ap, not_ap, eif_ap, bval_ap, bnot_ap, band_ap, bor_ap, gnam_ap, gtup_ap, gend_ap, gcons_ap, rng_ap, for_ap, loop_nil, setIx_ap, run_ap, M.ret, unpk, asB, back, retS, fit_of, sInt, sBl, fIx, fLen, fAbs, fInt, fList, Mi.isNon, fIsN, fNotN, fCmp, fLt, fLe, fGt, fGe, fAdd, fSub, fNeg, O.frz, Mi.pick, List.getElem?_cons_zero, List.getElem?_cons_succ, List.getElem?_nil, List.set_cons_zero, List.set_cons_succ, List.map_cons, List.map_nil, List.length_cons, List.length_nil, List.replicate_succ, List.replicate_zero, List.cons_append, List.nil_append, Option.map_some, Option.map_none, if_true, if_false, Bool.false_eq_true, Bool.not_true, Bool.not_false, decide_true, decide_false, reduceIte, ne_eq, not_true_eq_false, not_false_eq_true, List.getD_cons_zero, List.getD_cons_succ, Nat.reduceAdd, Nat.reduceSub, Nat.reduceLeDiff, Nat.reduceEqDiff, atI_0, atI_1, atI_2, lam_ap, append_ap, make_ap, setF_ap, own_ap, meth_ap, methD_ap, norm_val, norm_own, norm_ali, onMethD_ap, onMeth_val, onMeth_ali, lz_ap, raise_ap, try_ap, thunk_raw, thunk_exc, byes_ap, Mi.insAt, lendTo, hand, eChain, Mi.isL, onL, okFl]) ?_
  -- primitive, the first one
  have c8 := ecompF (own := [8]) (mi := iSeq (eVar 2)) (g := gNam 8) (test := (bVal (eOp fNe (eVar 8) (eLit (.int 0))))) (me := eVar 8) ns D.int D.int (fun n => !(n == 0)) (τ := [.lent 0 o6, .val (.int s), .val (.lst (ns.map .int)), .non, .val (.int g), .val (.int g), .non, .non, .non, .non, .non, .non, .non]) (τ1 := [.lent 0 o6, .val (.int s), .val (.lst (ns.map .int)), .non, .val (.int g), .val (.int g), .non, .non, .non, .non, .non, .non, .non])
    (iseq_val (.lst (ns.map .int)) rfl rfl) rfl (fun n _ => ⟨[.lent 0 o6, .val (.int s), .val (.lst (ns.map .int)), .non, .val (.int g), .val (.int g), .non, .non, .val (.int n), .non, .non, .non, .non], [.lent 0 o6, .val (.int s), .val (.lst (ns.map .int)), .non, .val (.int g), .val (.int g), .non, .non, .val (.int n), .non, .non, .non, .non], rfl, by simp only [Mi.ne_int, bnd_ap, of_ap, seq_ap, asg_ap, ret_ap, retN_ap, sif_ap, expr_ap, par_ap, par3_ap, asgT_ap, nil_ap, brk_ap, cnt_ap, give_val, give_own, give_ali, take_val, take_own, take_ali, ta_nil, ta_cons, pk_val, pk_own, pk_ali, pa_nil', pa_cons', var_ap, lit_ap, op_ap, un_ap, cb_ap, lc_ap, ln_ap, tup_ap, lst_ap, cv_ap, ck_ap, cl_ap, and_ap, or_ap, not_ap, eif_ap, bval_ap, bnot_ap, band_ap, bor_ap, gnam_ap, gtup_ap, gend_ap, gcons_ap, rng_ap, for_ap, loop_nil, setIx_ap, run_ap, M.ret, unpk, asB, back, retS, fit_of, sInt, sBl, fIx, fLen, fAbs, fInt, fList, Mi.isNon, fIsN, fNotN, fCmp, fLt, fLe, fGt, fGe, fAdd, fSub, fNeg, O.frz, Mi.pick, List.getElem?_cons_zero, List.getElem?_cons_succ, List.getElem?_nil, List.set_cons_zero, List.set_cons_succ, List.map_cons, List.map_nil, List.length_cons, List.length_nil, List.replicate_succ, List.replicate_zero, List.cons_append, List.nil_append, Option.map_some, Option.map_none, if_true, if_false, Bool.false_eq_true, Bool.not_true, Bool.not_false, decide_true, decide_false, reduceIte, ne_eq, not_true_eq_false, not_false_eq_true, List.getD_cons_zero, List.getD_cons_succ, Nat.reduceAdd, Nat.reduceSub, Nat.reduceLeDiff, Nat.reduceEqDiff, atI_0, atI_1, atI_2, lam_ap, append_ap, make_ap, setF_ap, own_ap, meth_ap, methD_ap, norm_val, norm_own, norm_ali, onMethD_ap, onMeth_val, onMeth_ali, lz_ap, raise_ap, try_ap, thunk_raw, thunk_exc, byes_ap, Mi.insAt, lendTo, hand, eChain, Mi.isL, onL, okFl], fun _ => rfl, fun _ => ⟨_, rfl, rfl⟩⟩) (by omega) rfl
  have c8' : (ns.filter fun n => !(n == 0)) = nz ns := rfl
  rw [c8'] at c8
  have nzl : (nz ns).length ≤ 5 := Nat.le_trans (List.length_filter_le _ _) ll
  have f8 : fAdd (.lst ((nz ns).map .int)) (.lst [.int 0]) = some (.own (.lst ((nz ns).map .int ++ [.int 0]))) := add_l (by simp only [List.length_map, List.length_cons, List.length_nil]; omega)
  have x8 := op_v (f := fAdd) (mb := eLst (lCons (eLit (.int 0)) (lNil))) (s2 := .own (.lst [.int 0])) c8 (by simp only [bnd_ap, of_ap, seq_ap, asg_ap, ret_ap, retN_ap, sif_ap, expr_ap, par_ap, par3_ap, asgT_ap, nil_ap, brk_ap, cnt_ap, give_val, give_own, give_ali, take_val, take_own, take_ali, ta_nil, ta_cons, pk_val, pk_own, pk_ali, pa_nil', pa_cons', var_ap, lit_ap, op_ap, un_ap, cb_ap, lc_ap, ln_ap, tup_ap, lst_ap, cv_ap, ck_ap, cl_ap, and_ap, or_ap, not_ap, eif_ap, bval_ap, bnot_ap, band_ap, bor_ap, gnam_ap, gtup_ap, gend_ap, gcons_ap, rng_ap, for_ap, loop_nil, setIx_ap, run_ap, M.ret, unpk, asB, back, retS, fit_of, sInt, sBl, fIx, fLen, fAbs, fInt, fList, Mi.isNon, fIsN, fNotN, fCmp, fLt, fLe, fGt, fGe, fAdd, fSub, fNeg, O.frz, Mi.pick, List.getElem?_cons_zero, List.getElem?_cons_succ, List.getElem?_nil, List.set_cons_zero, List.set_cons_succ, List.map_cons, List.map_nil, List.length_cons, List.length_nil, List.replicate_succ, List.replicate_zero, List.cons_append, List.nil_append, Option.map_some, Option.map_none, if_true, if_false, Bool.false_eq_true, Bool.not_true, Bool.not_false, decide_true, decide_false, reduceIte, ne_eq, not_true_eq_false, not_false_eq_true, List.getD_cons_zero, List.getD_cons_succ, Nat.reduceAdd, Nat.reduceSub, Nat.reduceLeDiff, Nat.reduceEqDiff, atI_0, atI_1, atI_2, lam_ap, append_ap, make_ap, setF_ap, own_ap, meth_ap, methD_ap, norm_val, norm_own, norm_ali, onMethD_ap, onMeth_val, onMeth_ali, lz_ap, raise_ap, try_ap, thunk_raw, thunk_exc, byes_ap, Mi.insAt, lendTo, hand, eChain, Mi.isL, onL, okFl]; rfl) pk_o pk_o f8
  have i8 : fIx (.lst ((nz ns).map .int ++ [.int 0])) (.int 0) = some (.val (.int F)) := by
    rw [hF]
    show (atI _ _).map _ = _
    rw [atI_app]; rfl
  have y8 := op_v (f := fIx) (mb := eLit (.int 0)) (s2 := .val (.int 0)) x8 lit_v pk_o pk_v i8
  refine at_seq (asgT_2 (a := .tup (RD.map .int)) (b := .int F) (τ1 := [.lent 0 o6, .val (.int s), .val (.lst (ns.map .int)), .non, .val (.int g), .val (.int g), .non, .non, .non, .non, .non, .non, .non]) ?_) ?_
  · have k1 : eCallK [0] 1 f_primitive (lCons (eVar 2) lNil) [.lent 0 o6, .val (.int s), .val (.lst (ns.map .int)), .non, .val (.int g), .val (.int g), .non, .non, .non, .non, .non, .non, .non] = .ok (.val (.tup (RD.map .int)), [.lent 0 o6, .val (.int s), .val (.lst (ns.map .int)), .non, .val (.int g), .val (.int g), .non, .non, .non, .non, .non, .non, .non]) := by simp only [pr, bnd_ap, of_ap, seq_ap, asg_ap, ret_ap, retN_ap, sif_ap, expr_ap, par_ap, par3_ap, asgT_ap, nil_ap, brk_ap, cnt_ap, give_val, give_own, give_ali, take_val, take_own, take_ali, ta_nil, ta_cons, pk_val, pk_own, pk_ali, pa_nil', pa_cons', var_ap, lit_ap, op_ap, un_ap, cb_ap, lc_ap, ln_ap, tup_ap, lst_ap, cv_ap, ck_ap, cl_ap, and_ap, or_ap, not_ap, eif_ap, bval_ap, bnot_ap, band_ap, bor_ap, gnam_ap, gtup_ap, gend_ap, gcons_ap, rng_ap, for_ap, loop_nil, setIx_ap, run_ap, M.ret, unpk, asB, back, retS, fit_of, sInt, sBl, fIx, fLen, fAbs, fInt, fList, Mi.isNon, fIsN, fNotN, fCmp, fLt, fLe, fGt, fGe, fAdd, fSub, fNeg, O.frz, Mi.pick, List.getElem?_cons_zero, List.getElem?_cons_succ, List.getElem?_nil, List.set_cons_zero, List.set_cons_succ, List.map_cons, List.map_nil, List.length_cons, List.length_nil, List.replicate_succ, List.replicate_zero, List.cons_append, List.nil_append, Option.map_some, Option.map_none, if_true, if_false, Bool.false_eq_true, Bool.not_true, Bool.not_false, decide_true, decide_false, reduceIte, ne_eq, not_true_eq_false, not_false_eq_true, List.getD_cons_zero, List.getD_cons_succ, Nat.reduceAdd, Nat.reduceSub, Nat.reduceLeDiff, Nat.reduceEqDiff, atI_0, atI_1, atI_2, lam_ap, append_ap, make_ap, setF_ap, own_ap, meth_ap, methD_ap, norm_val, norm_own, norm_ali, onMethD_ap, onMeth_val, onMeth_ali, lz_ap, raise_ap, try_ap, thunk_raw, thunk_exc, byes_ap, Mi.insAt, lendTo, hand, eChain, Mi.isL, onL, okFl]
    simp only [tup_ap, lm_2 k1 y8, bnd_ap, ta_cons, ta_nil, take_val, M.ret, of_ap, List.length_cons, List.length_nil, fit_of, Nat.reduceAdd, Nat.reduceLeDiff]
  obtain ⟨T, hT⟩ : ∃ T : List Mi.S, T = [.lent 0 o6, .val (.int s), .val (.lst (ns.map .int)), .non, .val (.int g), .val (.int g), .val (.tup (RD.map .int)), .val (.int F), .non, .non, .non, .non, .non] := ⟨_, rfl⟩
  show sSeq _ _ [.lent 0 o6, .val (.int s), .val (.lst (ns.map .int)), .non, .val (.int g), .val (.int g), .val (.tup (RD.map .int)), .val (.int F), .non, .non, .non, .non, .non] = _
  -- the products
  have sgn : ∀ x y z : Mi.S, eIf (bVal (eOp fGt (eVar 7) (eLit (.int 0)))) (eLit (.int 1)) (eUn fNeg (eLit (.int 1))) [.lent 0 o6, .val (.int s), .val (.lst (ns.map .int)), .non, .val (.int g), .val (.int g), .val (.tup (RD.map .int)), .val (.int F), .non, x, y, .non, .non] = .ok (.val (.int (if 0 < F then 1 else -1)), [.lent 0 o6, .val (.int s), .val (.lst (ns.map .int)), .non, .val (.int g), .val (.int g), .val (.tup (RD.map .int)), .val (.int F), .non, x, y, .non, .non]) := fun x y z => by
    by_cases q : 0 < F
    · simp only [q, bnd_ap, of_ap, seq_ap, asg_ap, ret_ap, retN_ap, sif_ap, expr_ap, par_ap, par3_ap, asgT_ap, nil_ap, brk_ap, cnt_ap, give_val, give_own, give_ali, take_val, take_own, take_ali, ta_nil, ta_cons, pk_val, pk_own, pk_ali, pa_nil', pa_cons', var_ap, lit_ap, op_ap, un_ap, cb_ap, lc_ap, ln_ap, tup_ap, lst_ap, cv_ap, ck_ap, cl_ap, and_ap, or_ap, not_ap, eif_ap, bval_ap, bnot_ap, band_ap, bor_ap, gnam_ap, gtup_ap, gend_ap, gcons_ap, rng_ap, for_ap, loop_nil, setIx_ap, run_ap, M.ret, unpk, asB, back, retS, fit_of, sInt, sBl, fIx, fLen, fAbs, fInt, fList, Mi.isNon, fIsN, fNotN, fCmp, fLt, fLe, fGt, fGe, fAdd, fSub, fNeg, O.frz, Mi.pick, List.getElem?_cons_zero, List.getElem?_cons_succ, List.getElem?_nil, List.set_cons_zero, List.set_cons_succ, List.map_cons, List.map_nil, List.length_cons, List.length_nil, List.replicate_succ, List.replicate_zero, List.cons_append, List.nil_append, Option.map_some, Option.map_none, if_true, if_false, Bool.false_eq_true, Bool.not_true, Bool.not_false, decide_true, decide_false, reduceIte, ne_eq, not_true_eq_false, not_false_eq_true, List.getD_cons_zero, List.getD_cons_succ, Nat.reduceAdd, Nat.reduceSub, Nat.reduceLeDiff, Nat.reduceEqDiff, atI_0, atI_1, atI_2, lam_ap, append_ap, make_ap, setF_ap, own_ap, meth_ap, methD_ap, norm_val, norm_own, norm_ali, onMethD_ap, onMeth_val, onMeth_ali, lz_ap, raise_ap, try_ap, thunk_raw, thunk_exc, byes_ap, Mi.insAt, lendTo, hand, eChain, Mi.isL, onL, okFl]
    · simp only [q, bnd_ap, of_ap, seq_ap, asg_ap, ret_ap, retN_ap, sif_ap, expr_ap, par_ap, par3_ap, asgT_ap, nil_ap, brk_ap, cnt_ap, give_val, give_own, give_ali, take_val, take_own, take_ali, ta_nil, ta_cons, pk_val, pk_own, pk_ali, pa_nil', pa_cons', var_ap, lit_ap, op_ap, un_ap, cb_ap, lc_ap, ln_ap, tup_ap, lst_ap, cv_ap, ck_ap, cl_ap, and_ap, or_ap, not_ap, eif_ap, bval_ap, bnot_ap, band_ap, bor_ap, gnam_ap, gtup_ap, gend_ap, gcons_ap, rng_ap, for_ap, loop_nil, setIx_ap, run_ap, M.ret, unpk, asB, back, retS, fit_of, sInt, sBl, fIx, fLen, fAbs, fInt, fList, Mi.isNon, fIsN, fNotN, fCmp, fLt, fLe, fGt, fGe, fAdd, fSub, fNeg, O.frz, Mi.pick, List.getElem?_cons_zero, List.getElem?_cons_succ, List.getElem?_nil, List.set_cons_zero, List.set_cons_succ, List.map_cons, List.map_nil, List.length_cons, List.length_nil, List.replicate_succ, List.replicate_zero, List.cons_append, List.nil_append, Option.map_some, Option.map_none, if_true, if_false, Bool.false_eq_true, Bool.not_true, Bool.not_false, decide_true, decide_false, reduceIte, ne_eq, not_true_eq_false, not_false_eq_true, List.getD_cons_zero, List.getD_cons_succ, Nat.reduceAdd, Nat.reduceSub, Nat.reduceLeDiff, Nat.reduceEqDiff, atI_0, atI_1, atI_2, lam_ap, append_ap, make_ap, setF_ap, own_ap, meth_ap, methD_ap, norm_val, norm_own, norm_ali, onMethD_ap, onMeth_val, onMeth_ali, lz_ap, raise_ap, try_ap, thunk_raw, thunk_exc, byes_ap, Mi.insAt, lendTo, hand, eChain, Mi.isL, onL, okFl]
  have zo := zip_ok (ns := ns)
  rw [← hRD, ← hF, ← hg] at zo
  have c9 := ecompF (own := [9, 10]) (mi := iTk zipMD (lCons (eVar 6) (lCons (eVar 2) (lNil)))) (g := gTupM 2 (gsCons (gNam 9) (gsCons (gNam 10) (gsEnd)))) (test := (bVal (eOp fNe (eOp fMul (eOp fMul (eVar 9) (eVar 5)) (eIf (bVal (eOp fGt (eVar 7) (eLit (.int 0)))) (eLit (.int 1)) (eUn fNeg (eLit (.int 1))))) (eVar 10)))) (me := eLit (.int 1)) (RD.zip ns) (fun p => D.tup [.int p.1, .int p.2]) (fun _ => D.int 1) (fun _ => false) (τ := [.lent 0 o6, .val (.int s), .val (.lst (ns.map .int)), .non, .val (.int g), .val (.int g), .val (.tup (RD.map .int)), .val (.int F), .non, .non, .non, .non, .non]) (τ1 := [.lent 0 o6, .val (.int s), .val (.lst (ns.map .int)), .non, .val (.int g), .val (.int g), .val (.tup (RD.map .int)), .val (.int F), .non, .non, .non, .non, .non])
    (by simp only [iTk, zipMD, zip_its, bnd_ap, of_ap, seq_ap, asg_ap, ret_ap, retN_ap, sif_ap, expr_ap, par_ap, par3_ap, asgT_ap, nil_ap, brk_ap, cnt_ap, give_val, give_own, give_ali, take_val, take_own, take_ali, ta_nil, ta_cons, pk_val, pk_own, pk_ali, pa_nil', pa_cons', var_ap, lit_ap, op_ap, un_ap, cb_ap, lc_ap, ln_ap, tup_ap, lst_ap, cv_ap, ck_ap, cl_ap, and_ap, or_ap, not_ap, eif_ap, bval_ap, bnot_ap, band_ap, bor_ap, gnam_ap, gtup_ap, gend_ap, gcons_ap, rng_ap, for_ap, loop_nil, setIx_ap, run_ap, M.ret, unpk, asB, back, retS, fit_of, sInt, sBl, fIx, fLen, fAbs, fInt, fList, Mi.isNon, fIsN, fNotN, fCmp, fLt, fLe, fGt, fGe, fAdd, fSub, fNeg, O.frz, Mi.pick, List.getElem?_cons_zero, List.getElem?_cons_succ, List.getElem?_nil, List.set_cons_zero, List.set_cons_succ, List.map_cons, List.map_nil, List.length_cons, List.length_nil, List.replicate_succ, List.replicate_zero, List.cons_append, List.nil_append, Option.map_some, Option.map_none, if_true, if_false, Bool.false_eq_true, Bool.not_true, Bool.not_false, decide_true, decide_false, reduceIte, ne_eq, not_true_eq_false, not_false_eq_true, List.getD_cons_zero, List.getD_cons_succ, Nat.reduceAdd, Nat.reduceSub, Nat.reduceLeDiff, Nat.reduceEqDiff, atI_0, atI_1, atI_2, lam_ap, append_ap, make_ap, setF_ap, own_ap, meth_ap, methD_ap, norm_val, norm_own, norm_ali, onMethD_ap, onMeth_val, onMeth_ali, lz_ap, raise_ap, try_ap, thunk_raw, thunk_exc, byes_ap, Mi.insAt, lendTo, hand, eChain, Mi.isL, onL, okFl]) rfl (fun p hp => by
      have u : unpk 2 (D.tup [.int p.1, .int p.2]) = some [.int p.1, .int p.2] := rfl
      have rb : p.1.natAbs < 2 ^ 20 := by
        have m1 : p.1 ∈ rd ns := by rw [← hRD]; exact (List.of_mem_zip hp).1
        by_cases hz : gcdL ns = 0
        · have r : rd ns = ns := by unfold rd; rw [if_pos hz]
          rw [r] at m1
          have := bn _ m1
          omega
        · have sp := rd_spec hz
          have m2 : sg ns * p.1 ∈ ns := by
            have : sg ns * p.1 ∈ (rd ns).map fun k => sg ns * k := List.mem_map.mpr ⟨_, m1, rfl⟩
            rw [← sp] at this
            exact this
          have b := bn _ m2
          rw [Int.natAbs_mul] at b
          have : 1 * p.1.natAbs ≤ (sg ns).natAbs * p.1.natAbs := Nat.mul_le_mul_right _ (by rw [sg_abs]; omega)
          omega
      have m1 := mul_l (i := p.1) (j := (g : Int)) (by omega)
      have ab := ab_mul (a := p.1) (b := (g : Int)) (p := 20) (q := 10) rb (by omega)
      have m2 := mul_l (i := p.1 * (g : Int)) (j := (if 0 < F then 1 else -1)) (by omega)
      have eq := zo p hp
      refine ⟨[.lent 0 o6, .val (.int s), .val (.lst (ns.map .int)), .non, .val (.int g), .val (.int g), .val (.tup (RD.map .int)), .val (.int F), .non, .val (.int p.1), .val (.int p.2), .non, .non], [.lent 0 o6, .val (.int s), .val (.lst (ns.map .int)), .non, .val (.int g), .val (.int g), .val (.tup (RD.map .int)), .val (.int F), .non, .val (.int p.1), .val (.int p.2), .non, .non], ?_, ?_, fun _ => rfl, fun h => by cases h⟩
      · simp only [wipeT, List.foldl_cons, List.foldl_nil, u, bnd_ap, of_ap, seq_ap, asg_ap, ret_ap, retN_ap, sif_ap, expr_ap, par_ap, par3_ap, asgT_ap, nil_ap, brk_ap, cnt_ap, give_val, give_own, give_ali, take_val, take_own, take_ali, ta_nil, ta_cons, pk_val, pk_own, pk_ali, pa_nil', pa_cons', var_ap, lit_ap, op_ap, un_ap, cb_ap, lc_ap, ln_ap, tup_ap, lst_ap, cv_ap, ck_ap, cl_ap, and_ap, or_ap, not_ap, eif_ap, bval_ap, bnot_ap, band_ap, bor_ap, gnam_ap, gtup_ap, gend_ap, gcons_ap, rng_ap, for_ap, loop_nil, setIx_ap, run_ap, M.ret, unpk, asB, back, retS, fit_of, sInt, sBl, fIx, fLen, fAbs, fInt, fList, Mi.isNon, fIsN, fNotN, fCmp, fLt, fLe, fGt, fGe, fAdd, fSub, fNeg, O.frz, Mi.pick, List.getElem?_cons_zero, List.getElem?_cons_succ, List.getElem?_nil, List.set_cons_zero, List.set_cons_succ, List.map_cons, List.map_nil, List.length_cons, List.length_nil, List.replicate_succ, List.replicate_zero, List.cons_append, List.nil_append, Option.map_some, Option.map_none, if_true, if_false, Bool.false_eq_true, Bool.not_true, Bool.not_false, decide_true, decide_false, reduceIte, ne_eq, not_true_eq_false, not_false_eq_true, List.getD_cons_zero, List.getD_cons_succ, Nat.reduceAdd, Nat.reduceSub, Nat.reduceLeDiff, Nat.reduceEqDiff, atI_0, atI_1, atI_2, lam_ap, append_ap, make_ap, setF_ap, own_ap, meth_ap, methD_ap, norm_val, norm_own, norm_ali, onMethD_ap, onMeth_val, onMeth_ali, lz_ap, raise_ap, try_ap, thunk_raw, thunk_exc, byes_ap, Mi.insAt, lendTo, hand, eChain, Mi.isL, onL, okFl]
      · refine bv (op_v (op_v (op_v (var_v rfl) (var_v rfl) pk_v pk_v m1) (sgn _ _ .non) pk_v pk_v m2) (var_v rfl) pk_v pk_v ?_)
        rw [eq, Mi.ne_int, beq_self_eq_true]; rfl) (by rw [List.length_zip]; omega) rfl
  have c9' : (RD.zip ns).filter (fun _ => false) = [] := List.filter_eq_nil_iff.mpr fun _ _ => Bool.false_ne_true
  rw [c9', List.map_nil] at c9
  have n0 : fNe (.lst []) (.lst []) = some (.val (.bl false)) := fNe_nil (n := 0) (xs := []) (by simp) (by decide)
  have lz : eLst lNil [.lent 0 o6, .val (.int s), .val (.lst (ns.map .int)), .non, .val (.int g), .val (.int g), .val (.tup (RD.map .int)), .val (.int F), .non, .non, .non, .non, .non] = .ok (.own (.lst []), [.lent 0 o6, .val (.int s), .val (.lst (ns.map .int)), .non, .val (.int g), .val (.int g), .val (.tup (RD.map .int)), .val (.int F), .non, .non, .non, .non, .non]) := by simp only [bnd_ap, of_ap, seq_ap, asg_ap, ret_ap, retN_ap, sif_ap, expr_ap, par_ap, par3_ap, asgT_ap, nil_ap, brk_ap, cnt_ap, give_val, give_own, give_ali, take_val, take_own, take_ali, ta_nil, ta_cons, pk_val, pk_own, pk_ali, pa_nil', pa_cons', var_ap, lit_ap, op_ap, un_ap, cb_ap, lc_ap, ln_ap, tup_ap, lst_ap, cv_ap, ck_ap, cl_ap, and_ap, or_ap, not_ap, eif_ap, bval_ap, bnot_ap, band_ap, bor_ap, gnam_ap, gtup_ap, gend_ap, gcons_ap, rng_ap, for_ap, loop_nil, setIx_ap, run_ap, M.ret, unpk, asB, back, retS, fit_of, sInt, sBl, fIx, fLen, fAbs, fInt, fList, Mi.isNon, fIsN, fNotN, fCmp, fLt, fLe, fGt, fGe, fAdd, fSub, fNeg, O.frz, Mi.pick, List.getElem?_cons_zero, List.getElem?_cons_succ, List.getElem?_nil, List.set_cons_zero, List.set_cons_succ, List.map_cons, List.map_nil, List.length_cons, List.length_nil, List.replicate_succ, List.replicate_zero, List.cons_append, List.nil_append, Option.map_some, Option.map_none, if_true, if_false, Bool.false_eq_true, Bool.not_true, Bool.not_false, decide_true, decide_false, reduceIte, ne_eq, not_true_eq_false, not_false_eq_true, List.getD_cons_zero, List.getD_cons_succ, Nat.reduceAdd, Nat.reduceSub, Nat.reduceLeDiff, Nat.reduceEqDiff, atI_0, atI_1, atI_2, lam_ap, append_ap, make_ap, setF_ap, own_ap, meth_ap, methD_ap, norm_val, norm_own, norm_ali, onMethD_ap, onMeth_val, onMeth_ali, lz_ap, raise_ap, try_ap, thunk_raw, thunk_exc, byes_ap, Mi.insAt, lendTo, hand, eChain, Mi.isL, onL, okFl]
  have it : fIsi isT [.tup (RD.map .int), .ty "tuple"] = some (.val (.bl true)) := rfl
  refine at_seq (τ1 := [.lent 0 o6, .val (.int s), .val (.lst (ns.map .int)), .non, .val (.int g), .val (.int g), .val (.tup (RD.map .int)), .val (.int F), .non, .non, .non, .non, .non]) (if_skip (or_ff (nt_f (bv (cb_2 (var_v rfl) lit_v pk_v pk_v it))) (or_ff (bv (op_v (f := fNe) c9 lz pk_o pk_o n0)) (bv ?_)))) ?_
  · have nl : fNe (.int (((RD.map D.int).length : Nat) : Int)) (.int (((ns.map D.int).length : Nat) : Int)) = some (.val (.bl false)) := by
      rw [List.length_map, List.length_map, lRD, Mi.ne_int, beq_self_eq_true]; rfl
    exact op_v (s1 := .val (.int (((RD.map D.int).length : Nat) : Int))) (s2 := .val (.int (((ns.map D.int).length : Nat) : Int))) (cb_1 (var_v rfl) pk_v rfl) (cb_1 (var_v rfl) pk_v rfl) pk_v pk_v nl
  -- the first is 0
  refine at_seq (τ1 := T) ?_ ?_
  · rw [hT]
    by_cases q : F = 0
    · have hz : gcdL ns = 0 := fs_zero.mp (by rw [← hF]; exact q)
      have r : RD = ns := by rw [hRD]; unfold rd; rw [if_pos hz]
      have q2 := eqT_self ns
      have e0 : fEq (.int F) (.int 0) = some (.val (.bl true)) := by rw [Mi.eq_int, q]; rfl
      refine if_skip (and_t (bv (op_v (var_v rfl) lit_v pk_v pk_v e0)) (bv (op_v (s2 := .val (.tup (ns.map .int))) (var_v rfl) (cb_1 (var_v rfl) pk_v rfl) pk_v pk_v ?_)))
      rw [r]; exact q2
    · have e0 : fEq (.int F) (.int 0) = some (.val (.bl false)) := by rw [Mi.eq_int]; simp [q]
      exact if_skip (and_f (bv (op_v (var_v rfl) lit_v pk_v pk_v e0)))
  -- which are primitive
  have ip := isprim_ok (d := .tup (RD.map .int)) (ns := RD) (.inr rfl) (by omega)
  have iq := isprim_ok (d := .lst (ns.map .int)) (ns := ns) (.inl rfl) (by omega)
  have h7 : T[7]? = some (.val (.int F)) := by rw [hT]; rfl
  have h6 : T[6]? = some (.val (.tup (RD.map .int))) := by rw [hT]; rfl
  have h5 : T[5]? = some (.val (.int g)) := by rw [hT]; rfl
  have h2 : T[2]? = some (.val (.lst (ns.map .int))) := by rw [hT]; rfl
  have ab1 : prB RD = !(F == 0) := by
    by_cases q : F = 0
    · have hz : gcdL ns = 0 := fs_zero.mp (by rw [← hF]; exact q)
      have r : RD = ns := by rw [hRD]; unfold rd; rw [if_pos hz]
      rw [r, q]
      unfold prB
      rw [hz]; rfl
    · have hz : gcdL ns ≠ 0 := fun z => q (by rw [hF]; exact fs_zero.mpr z)
      have p1 := rd_gcd hz
      have p2 := rd_fs hz
      rw [← hRD] at p1 p2
      unfold prB
      rw [p1, decide_eq_true p2]
      simp [q]
  have ab2 : prB ns = (((g : Int) == 1) && decide (0 < F)) := by
    unfold prB
    rw [← hg, ← hF]
    congr 1
    rw [Bool.eq_iff_iff, beq_iff_eq, beq_iff_eq]
    omega
  refine at_seq (τ1 := T) (if_skip (or_ff (nt_f (bv (same_t (call_1 (var_v h6) tk_v ip) (op_v (f := fNe) (var_v h7) lit_v pk_v pk_v (Mi.ne_int F 0)) ab1))) (nt_f (bv (same_t (b := ((g : Int) == 1) && decide (0 < F)) (τ1 := T) ?_ ?_ ab2))))) ?_
  · simp only [ck_ap, lc_ap, ln_ap, bnd_ap, var_ap, h2, M.ret, ta_cons, ta_nil, take_val, Mi.pick, List.map_cons, List.map_nil, List.getD_cons_zero, List.length_cons, List.length_nil, Nat.reduceAdd, if_true, iq]
  · exact eand_v (op_v (f := fEq) (var_v h5) lit_v pk_v pk_v (Mi.eq_int (g : Int) 1)) (op_v (f := fGt) (var_v h7) lit_v pk_v pk_v rfl)
  rw [hT]
  refine at_seq (τ1 := [.lent 0 o8, .val (.int s), .val (.lst (ns.map .int)), .non, .val (.int g), .val (.int g), .val (.tup (RD.map .int)), .val (.int F), .non, .non, .non, .val (.int G), .non]) (by simp only [p17, e8, lendTo, hand, ← hG, bnd_ap, of_ap, seq_ap, asg_ap, ret_ap, retN_ap, sif_ap, expr_ap, par_ap, par3_ap, asgT_ap, nil_ap, brk_ap, cnt_ap, give_val, give_own, give_ali, take_val, take_own, take_ali, ta_nil, ta_cons, pk_val, pk_own, pk_ali, pa_nil', pa_cons', var_ap, lit_ap, op_ap, un_ap, cb_ap, lc_ap, ln_ap, tup_ap, lst_ap, cv_ap, ck_ap, cl_ap, and_ap, or_ap, not_ap, eif_ap, bval_ap, bnot_ap, band_ap, bor_ap, gnam_ap, gtup_ap, gend_ap, gcons_ap, rng_ap, for_ap, loop_nil, setIx_ap, run_ap, M.ret, unpk, asB, back, retS, fit_of, sInt, sBl, fIx, fLen, fAbs, fInt, fList, Mi.isNon, fIsN, fNotN, fCmp, fLt, fLe, fGt, fGe, fAdd, fSub, fNeg, O.frz, Mi.pick, List.getElem?_cons_zero, List.getElem?_cons_succ, List.getElem?_nil, List.set_cons_zero, List.set_cons_succ, List.map_cons, List.map_nil, List.length_cons, List.length_nil, List.replicate_succ, List.replicate_zero, List.cons_append, List.nil_append, Option.map_some, Option.map_none, if_true, if_false, Bool.false_eq_true, Bool.not_true, Bool.not_false, decide_true, decide_false, reduceIte, ne_eq, not_true_eq_false, not_false_eq_true, List.getD_cons_zero, List.getD_cons_succ, Nat.reduceAdd, Nat.reduceSub, Nat.reduceLeDiff, Nat.reduceEqDiff, atI_0, atI_1, atI_2, lam_ap, append_ap, make_ap, setF_ap, own_ap, meth_ap, methD_ap, norm_val, norm_own, norm_ali, onMethD_ap, onMeth_val, onMeth_ali, lz_ap, raise_ap, try_ap, thunk_raw, thunk_exc, byes_ap, Mi.insAt, lendTo, hand, eChain, Mi.isL, onL, okFl]) ?_
  -- great ones
  have m1 : ∀ n : Int, fMul (.int G) (.int n) = some (.val (.int (G * n))) := fun n => mul_l Gb
  have m2 : ∀ n : Int, fMul (.int (-G)) (.int n) = some (.val (.int (-G * n))) := fun n => mul_l (by omega)
  have d1 := ecompM (own := [8]) (mi := iSeq (eVar 2)) (g := gNam 8) (me := eOp fMul (eVar 11) (eVar 8)) ns D.int (fun n => D.int (G * n)) (τ := [.lent 0 o8, .val (.int s), .val (.lst (ns.map .int)), .non, .val (.int g), .val (.int g), .val (.tup (RD.map .int)), .val (.int F), .non, .non, .non, .val (.int G), .non]) (τ1 := [.lent 0 o8, .val (.int s), .val (.lst (ns.map .int)), .non, .val (.int g), .val (.int g), .val (.tup (RD.map .int)), .val (.int F), .non, .non, .non, .val (.int G), .non])
    (iseq_val (.lst (ns.map .int)) rfl rfl) rfl (fun n _ => ⟨[.lent 0 o8, .val (.int s), .val (.lst (ns.map .int)), .non, .val (.int g), .val (.int g), .val (.tup (RD.map .int)), .val (.int F), .val (.int n), .non, .non, .val (.int G), .non], [.lent 0 o8, .val (.int s), .val (.lst (ns.map .int)), .non, .val (.int g), .val (.int g), .val (.tup (RD.map .int)), .val (.int F), .val (.int n), .non, .non, .val (.int G), .non], rfl, by simp only [m1, bnd_ap, of_ap, seq_ap, asg_ap, ret_ap, retN_ap, sif_ap, expr_ap, par_ap, par3_ap, asgT_ap, nil_ap, brk_ap, cnt_ap, give_val, give_own, give_ali, take_val, take_own, take_ali, ta_nil, ta_cons, pk_val, pk_own, pk_ali, pa_nil', pa_cons', var_ap, lit_ap, op_ap, un_ap, cb_ap, lc_ap, ln_ap, tup_ap, lst_ap, cv_ap, ck_ap, cl_ap, and_ap, or_ap, not_ap, eif_ap, bval_ap, bnot_ap, band_ap, bor_ap, gnam_ap, gtup_ap, gend_ap, gcons_ap, rng_ap, for_ap, loop_nil, setIx_ap, run_ap, M.ret, unpk, asB, back, retS, fit_of, sInt, sBl, fIx, fLen, fAbs, fInt, fList, Mi.isNon, fIsN, fNotN, fCmp, fLt, fLe, fGt, fGe, fAdd, fSub, fNeg, O.frz, Mi.pick, List.getElem?_cons_zero, List.getElem?_cons_succ, List.getElem?_nil, List.set_cons_zero, List.set_cons_succ, List.map_cons, List.map_nil, List.length_cons, List.length_nil, List.replicate_succ, List.replicate_zero, List.cons_append, List.nil_append, Option.map_some, Option.map_none, if_true, if_false, Bool.false_eq_true, Bool.not_true, Bool.not_false, decide_true, decide_false, reduceIte, ne_eq, not_true_eq_false, not_false_eq_true, List.getD_cons_zero, List.getD_cons_succ, Nat.reduceAdd, Nat.reduceSub, Nat.reduceLeDiff, Nat.reduceEqDiff, atI_0, atI_1, atI_2, lam_ap, append_ap, make_ap, setF_ap, own_ap, meth_ap, methD_ap, norm_val, norm_own, norm_ali, onMethD_ap, onMeth_val, onMeth_ali, lz_ap, raise_ap, try_ap, thunk_raw, thunk_exc, byes_ap, Mi.insAt, lendTo, hand, eChain, Mi.isL, onL, okFl], rfl⟩) (by omega) rfl
  have d2 := ecompM (own := [8]) (mi := iSeq (eVar 2)) (g := gNam 8) (me := eOp fMul (eUn fNeg (eVar 11)) (eVar 8)) ns D.int (fun n => D.int (-G * n)) (τ := [.lent 0 o8, .val (.int s), .val (.lst (ns.map .int)), .non, .val (.int g), .val (.int g), .val (.tup (RD.map .int)), .val (.int F), .non, .non, .non, .val (.int G), .non]) (τ1 := [.lent 0 o8, .val (.int s), .val (.lst (ns.map .int)), .non, .val (.int g), .val (.int g), .val (.tup (RD.map .int)), .val (.int F), .non, .non, .non, .val (.int G), .non])
    (iseq_val (.lst (ns.map .int)) rfl rfl) rfl (fun n _ => ⟨[.lent 0 o8, .val (.int s), .val (.lst (ns.map .int)), .non, .val (.int g), .val (.int g), .val (.tup (RD.map .int)), .val (.int F), .val (.int n), .non, .non, .val (.int G), .non], [.lent 0 o8, .val (.int s), .val (.lst (ns.map .int)), .non, .val (.int g), .val (.int g), .val (.tup (RD.map .int)), .val (.int F), .val (.int n), .non, .non, .val (.int G), .non], rfl, by simp only [m2, bnd_ap, of_ap, seq_ap, asg_ap, ret_ap, retN_ap, sif_ap, expr_ap, par_ap, par3_ap, asgT_ap, nil_ap, brk_ap, cnt_ap, give_val, give_own, give_ali, take_val, take_own, take_ali, ta_nil, ta_cons, pk_val, pk_own, pk_ali, pa_nil', pa_cons', var_ap, lit_ap, op_ap, un_ap, cb_ap, lc_ap, ln_ap, tup_ap, lst_ap, cv_ap, ck_ap, cl_ap, and_ap, or_ap, not_ap, eif_ap, bval_ap, bnot_ap, band_ap, bor_ap, gnam_ap, gtup_ap, gend_ap, gcons_ap, rng_ap, for_ap, loop_nil, setIx_ap, run_ap, M.ret, unpk, asB, back, retS, fit_of, sInt, sBl, fIx, fLen, fAbs, fInt, fList, Mi.isNon, fIsN, fNotN, fCmp, fLt, fLe, fGt, fGe, fAdd, fSub, fNeg, O.frz, Mi.pick, List.getElem?_cons_zero, List.getElem?_cons_succ, List.getElem?_nil, List.set_cons_zero, List.set_cons_succ, List.map_cons, List.map_nil, List.length_cons, List.length_nil, List.replicate_succ, List.replicate_zero, List.cons_append, List.nil_append, Option.map_some, Option.map_none, if_true, if_false, Bool.false_eq_true, Bool.not_true, Bool.not_false, decide_true, decide_false, reduceIte, ne_eq, not_true_eq_false, not_false_eq_true, List.getD_cons_zero, List.getD_cons_succ, Nat.reduceAdd, Nat.reduceSub, Nat.reduceLeDiff, Nat.reduceEqDiff, atI_0, atI_1, atI_2, lam_ap, append_ap, make_ap, setF_ap, own_ap, meth_ap, methD_ap, norm_val, norm_own, norm_ali, onMethD_ap, onMeth_val, onMeth_ali, lz_ap, raise_ap, try_ap, thunk_raw, thunk_exc, byes_ap, Mi.insAt, lendTo, hand, eChain, Mi.isL, onL, okFl], rfl⟩) (by omega) rfl
  have q1 : (ns.map fun n => D.int (G * n)) = (ns.map fun n => G * n).map D.int := by rw [List.map_map]; rfl
  have q2 : (ns.map fun n => D.int (-G * n)) = (ns.map fun n => -G * n).map D.int := by rw [List.map_map]; rfl
  rw [q1] at d1
  rw [q2] at d2
  have cg := common_ok (d := .lst ((ns.map fun n => G * n).map .int)) (.inl rfl) (by rw [List.length_map]; omega)
  have gN : gcdL (ns.map fun n => -G * n) < 2 ^ 900 := by
    rw [gcdL_mul, ← hg]
    have := Nat.mul_le_mul (show (-G).natAbs ≤ 2 ^ 60 by omega) gb
    exact Nat.lt_of_le_of_lt this (by decide +kernel)
  have pg := primitive_ok (d := .lst ((ns.map fun n => -G * n).map .int)) (.inl rfl) (by rw [List.length_map]; omega) gN
  rw [rd_mul (by omega), ← hRD] at pg
  rw [gcdL_mul, ← hg] at cg
  have gg : ((G.natAbs * g : Nat) : Int) = G * (g : Int) := by
    rw [Int.natCast_mul]
    have : (G.natAbs : Int) = G := by omega
    rw [this]
  rw [gg] at cg
  refine at_seq (if_skip (or_ff (bv (op_v (f := fNe) (s2 := .val (.int (G * g))) (call_1 d1 tk_o cg) (op_v (f := fMul) (var_v rfl) (var_v rfl) pk_v pk_v (m1 _)) pk_v pk_v (by rw [Mi.ne_int, beq_self_eq_true]; rfl))) (bv (op_v (f := fNe) (call_1 d2 tk_o pg) (var_v rfl) pk_v pk_v (eqT_self RD))))) ?_
  refine at_seq (τ1 := [.lent 0 o9, .val (.int s), .val (.lst (ns.map .int)), .non, .val (.int g), .val (.int g), .val (.tup (RD.map .int)), .val (.int F), .non, .non, .non, .val (.int G), .val od]) (by
    unfold oddL at e9
    simp only [e9, lendTo, hand, bnd_ap, of_ap, seq_ap, asg_ap, ret_ap, retN_ap, sif_ap, expr_ap, par_ap, par3_ap, asgT_ap, nil_ap, brk_ap, cnt_ap, give_val, give_own, give_ali, take_val, take_own, take_ali, ta_nil, ta_cons, pk_val, pk_own, pk_ali, pa_nil', pa_cons', var_ap, lit_ap, op_ap, un_ap, cb_ap, lc_ap, ln_ap, tup_ap, lst_ap, cv_ap, ck_ap, cl_ap, and_ap, or_ap, not_ap, eif_ap, bval_ap, bnot_ap, band_ap, bor_ap, gnam_ap, gtup_ap, gend_ap, gcons_ap, rng_ap, for_ap, loop_nil, setIx_ap, run_ap, M.ret, unpk, asB, back, retS, fit_of, sInt, sBl, fIx, fLen, fAbs, fInt, fList, Mi.isNon, fIsN, fNotN, fCmp, fLt, fLe, fGt, fGe, fAdd, fSub, fNeg, O.frz, Mi.pick, List.getElem?_cons_zero, List.getElem?_cons_succ, List.getElem?_nil, List.set_cons_zero, List.set_cons_succ, List.map_cons, List.map_nil, List.length_cons, List.length_nil, List.replicate_succ, List.replicate_zero, List.cons_append, List.nil_append, Option.map_some, Option.map_none, if_true, if_false, Bool.false_eq_true, Bool.not_true, Bool.not_false, decide_true, decide_false, reduceIte, ne_eq, not_true_eq_false, not_false_eq_true, List.getD_cons_zero, List.getD_cons_succ, Nat.reduceAdd, Nat.reduceSub, Nat.reduceLeDiff, Nat.reduceEqDiff, atI_0, atI_1, atI_2, lam_ap, append_ap, make_ap, setF_ap, own_ap, meth_ap, methD_ap, norm_val, norm_own, norm_ali, onMethD_ap, onMeth_val, onMeth_ali, lz_ap, raise_ap, try_ap, thunk_raw, thunk_exc, byes_ap, Mi.insAt, lendTo, hand, eChain, Mi.isL, onL, okFl]) ?_
  have po := oddL_prim m9
  have pt := isprim_ok (d := .lst ([0, 1].map .int)) (ns := [0, 1]) (.inl rfl) (by decide)
  have pb : prB [0, 1] = true := by decide
  rw [pb] at pt
  have ce := common_ok (d := .tup ([].map .int)) (ns := []) (.inr rfl) (by decide)
  have pe := primitive_ok (d := .lst ([].map .int)) (ns := []) (.inl rfl) (by decide) (by decide +kernel)
  have z0 : ((gcdL [] : Nat) : Int) = 0 := rfl
  rw [z0] at ce
  simp only [List.map_cons, List.map_nil] at pt ce pe
  refine ret_v (eand_t (τ1 := [.lent 0 o9, .val (.int s), .val (.lst (ns.map .int)), .non, .val (.int g), .val (.int g), .val (.tup (RD.map .int)), .val (.int F), .non, .non, .non, .val (.int G), .val od]) (same_t (call_1 (var_v rfl) tk_v po) lit_v rfl) (eand_t (τ1 := [.lent 0 o9, .val (.int s), .val (.lst (ns.map .int)), .non, .val (.int g), .val (.int g), .val (.tup (RD.map .int)), .val (.int F), .non, .non, .non, .val (.int G), .val od]) (same_t (a := true) ?_ lit_v rfl) (eand_t (τ1 := [.lent 0 o9, .val (.int s), .val (.lst (ns.map .int)), .non, .val (.int g), .val (.int g), .val (.tup (RD.map .int)), .val (.int F), .non, .non, .non, .val (.int G), .val od]) ?_ ?_)))
  · exact call_1 (s1 := .own (.lst [.int 0, .int 1])) (by simp only [bnd_ap, of_ap, seq_ap, asg_ap, ret_ap, retN_ap, sif_ap, expr_ap, par_ap, par3_ap, asgT_ap, nil_ap, brk_ap, cnt_ap, give_val, give_own, give_ali, take_val, take_own, take_ali, ta_nil, ta_cons, pk_val, pk_own, pk_ali, pa_nil', pa_cons', var_ap, lit_ap, op_ap, un_ap, cb_ap, lc_ap, ln_ap, tup_ap, lst_ap, cv_ap, ck_ap, cl_ap, and_ap, or_ap, not_ap, eif_ap, bval_ap, bnot_ap, band_ap, bor_ap, gnam_ap, gtup_ap, gend_ap, gcons_ap, rng_ap, for_ap, loop_nil, setIx_ap, run_ap, M.ret, unpk, asB, back, retS, fit_of, sInt, sBl, fIx, fLen, fAbs, fInt, fList, Mi.isNon, fIsN, fNotN, fCmp, fLt, fLe, fGt, fGe, fAdd, fSub, fNeg, O.frz, Mi.pick, List.getElem?_cons_zero, List.getElem?_cons_succ, List.getElem?_nil, List.set_cons_zero, List.set_cons_succ, List.map_cons, List.map_nil, List.length_cons, List.length_nil, List.replicate_succ, List.replicate_zero, List.cons_append, List.nil_append, Option.map_some, Option.map_none, if_true, if_false, Bool.false_eq_true, Bool.not_true, Bool.not_false, decide_true, decide_false, reduceIte, ne_eq, not_true_eq_false, not_false_eq_true, List.getD_cons_zero, List.getD_cons_succ, Nat.reduceAdd, Nat.reduceSub, Nat.reduceLeDiff, Nat.reduceEqDiff, atI_0, atI_1, atI_2, lam_ap, append_ap, make_ap, setF_ap, own_ap, meth_ap, methD_ap, norm_val, norm_own, norm_ali, onMethD_ap, onMeth_val, onMeth_ali, lz_ap, raise_ap, try_ap, thunk_raw, thunk_exc, byes_ap, Mi.insAt, lendTo, hand, eChain, Mi.isL, onL, okFl]) tk_o pt
  · exact op_v (f := fEq) (s1 := .val (.int 0)) (call_1 (s1 := .val (.tup [])) (by simp only [bnd_ap, of_ap, seq_ap, asg_ap, ret_ap, retN_ap, sif_ap, expr_ap, par_ap, par3_ap, asgT_ap, nil_ap, brk_ap, cnt_ap, give_val, give_own, give_ali, take_val, take_own, take_ali, ta_nil, ta_cons, pk_val, pk_own, pk_ali, pa_nil', pa_cons', var_ap, lit_ap, op_ap, un_ap, cb_ap, lc_ap, ln_ap, tup_ap, lst_ap, cv_ap, ck_ap, cl_ap, and_ap, or_ap, not_ap, eif_ap, bval_ap, bnot_ap, band_ap, bor_ap, gnam_ap, gtup_ap, gend_ap, gcons_ap, rng_ap, for_ap, loop_nil, setIx_ap, run_ap, M.ret, unpk, asB, back, retS, fit_of, sInt, sBl, fIx, fLen, fAbs, fInt, fList, Mi.isNon, fIsN, fNotN, fCmp, fLt, fLe, fGt, fGe, fAdd, fSub, fNeg, O.frz, Mi.pick, List.getElem?_cons_zero, List.getElem?_cons_succ, List.getElem?_nil, List.set_cons_zero, List.set_cons_succ, List.map_cons, List.map_nil, List.length_cons, List.length_nil, List.replicate_succ, List.replicate_zero, List.cons_append, List.nil_append, Option.map_some, Option.map_none, if_true, if_false, Bool.false_eq_true, Bool.not_true, Bool.not_false, decide_true, decide_false, reduceIte, ne_eq, not_true_eq_false, not_false_eq_true, List.getD_cons_zero, List.getD_cons_succ, Nat.reduceAdd, Nat.reduceSub, Nat.reduceLeDiff, Nat.reduceEqDiff, atI_0, atI_1, atI_2, lam_ap, append_ap, make_ap, setF_ap, own_ap, meth_ap, methD_ap, norm_val, norm_own, norm_ali, onMethD_ap, onMeth_val, onMeth_ali, lz_ap, raise_ap, try_ap, thunk_raw, thunk_exc, byes_ap, Mi.insAt, lendTo, hand, eChain, Mi.isL, onL, okFl]) tk_v ce) lit_v pk_v pk_v (by rw [Mi.eq_int]; rfl)
  · have te : fEq (.tup []) (.tup []) = some (.val (.bl true)) := fEq_self (n := 1) (.tup (by simp)) (by decide)
    have r0 : rd [] = [] := rfl
    rw [r0, List.map_nil] at pe
    exact op_v (f := fEq) (s1 := .val (.tup [])) (s2 := .val (.tup [])) (call_1 (s1 := .own (.lst [])) (τ1 := [.lent 0 o9, .val (.int s), .val (.lst (ns.map .int)), .non, .val (.int g), .val (.int g), .val (.tup (RD.map .int)), .val (.int F), .non, .non, .non, .val (.int G), .val od]) (τ2 := [.lent 0 o9, .val (.int s), .val (.lst (ns.map .int)), .non, .val (.int g), .val (.int g), .val (.tup (RD.map .int)), .val (.int F), .non, .non, .non, .val (.int G), .val od]) (by simp only [bnd_ap, of_ap, seq_ap, asg_ap, ret_ap, retN_ap, sif_ap, expr_ap, par_ap, par3_ap, asgT_ap, nil_ap, brk_ap, cnt_ap, give_val, give_own, give_ali, take_val, take_own, take_ali, ta_nil, ta_cons, pk_val, pk_own, pk_ali, pa_nil', pa_cons', var_ap, lit_ap, op_ap, un_ap, cb_ap, lc_ap, ln_ap, tup_ap, lst_ap, cv_ap, ck_ap, cl_ap, and_ap, or_ap, not_ap, eif_ap, bval_ap, bnot_ap, band_ap, bor_ap, gnam_ap, gtup_ap, gend_ap, gcons_ap, rng_ap, for_ap, loop_nil, setIx_ap, run_ap, M.ret, unpk, asB, back, retS, fit_of, sInt, sBl, fIx, fLen, fAbs, fInt, fList, Mi.isNon, fIsN, fNotN, fCmp, fLt, fLe, fGt, fGe, fAdd, fSub, fNeg, O.frz, Mi.pick, List.getElem?_cons_zero, List.getElem?_cons_succ, List.getElem?_nil, List.set_cons_zero, List.set_cons_succ, List.map_cons, List.map_nil, List.length_cons, List.length_nil, List.replicate_succ, List.replicate_zero, List.cons_append, List.nil_append, Option.map_some, Option.map_none, if_true, if_false, Bool.false_eq_true, Bool.not_true, Bool.not_false, decide_true, decide_false, reduceIte, ne_eq, not_true_eq_false, not_false_eq_true, List.getD_cons_zero, List.getD_cons_succ, Nat.reduceAdd, Nat.reduceSub, Nat.reduceLeDiff, Nat.reduceEqDiff, atI_0, atI_1, atI_2, lam_ap, append_ap, make_ap, setF_ap, own_ap, meth_ap, methD_ap, norm_val, norm_own, norm_ali, onMethD_ap, onMeth_val, onMeth_ali, lz_ap, raise_ap, try_ap, thunk_raw, thunk_exc, byes_ap, Mi.insAt, lendTo, hand, eChain, Mi.isL, onL, okFl]) tk_o pe) (by simp only [bnd_ap, of_ap, seq_ap, asg_ap, ret_ap, retN_ap, sif_ap, expr_ap, par_ap, par3_ap, asgT_ap, nil_ap, brk_ap, cnt_ap, give_val, give_own, give_ali, take_val, take_own, take_ali, ta_nil, ta_cons, pk_val, pk_own, pk_ali, pa_nil', pa_cons', var_ap, lit_ap, op_ap, un_ap, cb_ap, lc_ap, ln_ap, tup_ap, lst_ap, cv_ap, ck_ap, cl_ap, and_ap, or_ap, not_ap, eif_ap, bval_ap, bnot_ap, band_ap, bor_ap, gnam_ap, gtup_ap, gend_ap, gcons_ap, rng_ap, for_ap, loop_nil, setIx_ap, run_ap, M.ret, unpk, asB, back, retS, fit_of, sInt, sBl, fIx, fLen, fAbs, fInt, fList, Mi.isNon, fIsN, fNotN, fCmp, fLt, fLe, fGt, fGe, fAdd, fSub, fNeg, O.frz, Mi.pick, List.getElem?_cons_zero, List.getElem?_cons_succ, List.getElem?_nil, List.set_cons_zero, List.set_cons_succ, List.map_cons, List.map_nil, List.length_cons, List.length_nil, List.replicate_succ, List.replicate_zero, List.cons_append, List.nil_append, Option.map_some, Option.map_none, if_true, if_false, Bool.false_eq_true, Bool.not_true, Bool.not_false, decide_true, decide_false, reduceIte, ne_eq, not_true_eq_false, not_false_eq_true, List.getD_cons_zero, List.getD_cons_succ, Nat.reduceAdd, Nat.reduceSub, Nat.reduceLeDiff, Nat.reduceEqDiff, atI_0, atI_1, atI_2, lam_ap, append_ap, make_ap, setF_ap, own_ap, meth_ap, methD_ap, norm_val, norm_own, norm_ali, onMethD_ap, onMeth_val, onMeth_ali, lz_ap, raise_ap, try_ap, thunk_raw, thunk_exc, byes_ap, Mi.insAt, lendTo, hand, eChain, Mi.isL, onL, okFl]) pk_v pk_v te
end K01

namespace K01
open PySem PySem.Spec PyProof.Rows L2 Mi
/-! #### ratios right -/
theorem need_any (i : Int) (w : D) : f_need_number [.val (.int i), .val w, .val .non, .val .non] = .ok (.val .non, [.non, .non, .non, .non]) := by
  have e1 := within_i (a := .non) (b := .non) i rfl rfl
  have e2 : (lo .non i && hi .non i) = true := rfl
  rw [e2] at e1
  simp only [f_need_number, m_need_number, e1, bnd_ap, of_ap, seq_ap, asg_ap, ret_ap, retN_ap, sif_ap, expr_ap, par_ap, par3_ap, asgT_ap, nil_ap, brk_ap, cnt_ap, give_val, give_own, give_ali, take_val, take_own, take_ali, ta_nil, ta_cons, pk_val, pk_own, pk_ali, pa_nil', pa_cons', var_ap, lit_ap, op_ap, un_ap, cb_ap, lc_ap, ln_ap, tup_ap, lst_ap, cv_ap, ck_ap, cl_ap, and_ap, or_ap, not_ap, eif_ap, bval_ap, bnot_ap, band_ap, bor_ap, gnam_ap, gtup_ap, gend_ap, gcons_ap, rng_ap, for_ap, loop_nil, setIx_ap, run_ap, M.ret, unpk, asB, back, retS, fit_of, sInt, sBl, fIx, fLen, fAbs, fInt, fList, Mi.isNon, fIsN, fNotN, fCmp, fLt, fLe, fGt, fGe, fAdd, fSub, fNeg, O.frz, Mi.pick, List.getElem?_cons_zero, List.getElem?_cons_succ, List.getElem?_nil, List.set_cons_zero, List.set_cons_succ, List.map_cons, List.map_nil, List.length_cons, List.length_nil, List.replicate_succ, List.replicate_zero, List.cons_append, List.nil_append, Option.map_some, Option.map_none, if_true, if_false, Bool.false_eq_true, Bool.not_true, Bool.not_false, decide_true, decide_false, reduceIte, ne_eq, not_true_eq_false, not_false_eq_true, List.getD_cons_zero, List.getD_cons_succ, Nat.reduceAdd, Nat.reduceSub, Nat.reduceLeDiff, Nat.reduceEqDiff, atI_0, atI_1, atI_2, lam_ap, append_ap, make_ap, setF_ap, own_ap, meth_ap, methD_ap, norm_val, norm_own, norm_ali, onMethD_ap, onMeth_val, onMeth_ali, lz_ap, raise_ap, try_ap, thunk_raw, thunk_exc, byes_ap, Mi.insAt, lendTo, hand, eChain, Mi.isL, onL, okFl]
theorem need_no {d w : D} (h : tgd d = true) (hn : isI d = false) : f_need_number [.val d, .val w, .val .non, .val .non] = .exc "BadNumber" [("part", w)] [.non, .non, .non, .non] := by
  have e1 := within_n (a := .non) (b := .non) h hn
  simp only [f_need_number, m_need_number, e1, bnd_ap, of_ap, seq_ap, asg_ap, ret_ap, retN_ap, sif_ap, expr_ap, par_ap, par3_ap, asgT_ap, nil_ap, brk_ap, cnt_ap, give_val, give_own, give_ali, take_val, take_own, take_ali, ta_nil, ta_cons, pk_val, pk_own, pk_ali, pa_nil', pa_cons', var_ap, lit_ap, op_ap, un_ap, cb_ap, lc_ap, ln_ap, tup_ap, lst_ap, cv_ap, ck_ap, cl_ap, and_ap, or_ap, not_ap, eif_ap, bval_ap, bnot_ap, band_ap, bor_ap, gnam_ap, gtup_ap, gend_ap, gcons_ap, rng_ap, for_ap, loop_nil, setIx_ap, run_ap, M.ret, unpk, asB, back, retS, fit_of, sInt, sBl, fIx, fLen, fAbs, fInt, fList, Mi.isNon, fIsN, fNotN, fCmp, fLt, fLe, fGt, fGe, fAdd, fSub, fNeg, O.frz, Mi.pick, List.getElem?_cons_zero, List.getElem?_cons_succ, List.getElem?_nil, List.set_cons_zero, List.set_cons_succ, List.map_cons, List.map_nil, List.length_cons, List.length_nil, List.replicate_succ, List.replicate_zero, List.cons_append, List.nil_append, Option.map_some, Option.map_none, if_true, if_false, Bool.false_eq_true, Bool.not_true, Bool.not_false, decide_true, decide_false, reduceIte, ne_eq, not_true_eq_false, not_false_eq_true, List.getD_cons_zero, List.getD_cons_succ, Nat.reduceAdd, Nat.reduceSub, Nat.reduceLeDiff, Nat.reduceEqDiff, atI_0, atI_1, atI_2, lam_ap, append_ap, make_ap, setF_ap, own_ap, meth_ap, methD_ap, norm_val, norm_own, norm_ali, onMethD_ap, onMeth_val, onMeth_ali, lz_ap, raise_ap, try_ap, thunk_raw, thunk_exc, byes_ap, Mi.insAt, lendTo, hand, eChain, Mi.isL, onL, okFl]
  rfl
theorem ratio_2 {d : D} {a b : Int} (h : Seq d [a, b]) : f_is_ratio [.val d] = .ok (.val (.bl (decide (0 < b) && gcdL [a, b] == 1)), [.non]) := by
  have e1 := h.are (by simp)
  have e2 := measure_ok h.items
  have l : fLen [d] = some (.val (.int 2)) := by rcases h with rfl | rfl <;> rfl
  have ix : fIx d (.int 1) = some (.val (.int b)) := by rcases h with rfl | rfl <;> rfl
  have n2 : fNe (.int 2) (.int 2) = some (.val (.bl false)) := by rw [Mi.ne_int]; rfl
  have q : fEq (.int (gcdL [a, b] : Int)) (.int 1) = some (.val (.bl (gcdL [a, b] == 1))) := by
    rw [Mi.eq_int]
    congr 3
    rw [Bool.eq_iff_iff, beq_iff_eq, beq_iff_eq]
    omega
  rw [f_is_ratio]
  refine run_1 (τ := [.val d]) rfl ?_ rfl rfl
  show m_is_ratio [.val d] = _
  unfold m_is_ratio
  refine at_seq (τ1 := [.val d]) (if_skip (or_ff (nt_f (bv (call_1 (var_v rfl) tk_v e1))) (bv (op_v (f := fNe) (s1 := .val (.int 2)) (cb_1 (var_v rfl) pk_v l) lit_v pk_v pk_v n2)))) ?_
  exact ret_v (eand_v (op_v (f := fGt) (op_v (f := fIx) (var_v rfl) lit_v pk_v pk_v ix) lit_v pk_v pk_v rfl) (op_v (f := fEq) (call_1 (var_v rfl) tk_v e2) lit_v pk_v pk_v q))
theorem ratio_n {d : D} {ns : List Int} (h : Seq d ns) (hl : ns.length ≤ 1000) (hn : ns.length ≠ 2) : f_is_ratio [.val d] = .ok (.val (.bl false), [.non]) := by
  have e1 := h.are hl
  have l : fLen [d] = some (.val (.int (ns.length : Int))) := by rcases h with rfl | rfl <;> simp only [fLen, sInt, List.length_map]
  have n2 : fNe (.int (ns.length : Int)) (.int 2) = some (.val (.bl true)) := by
    rw [Mi.ne_int]
    have : ((ns.length : Int) == 2) = false := by simp; omega
    rw [this]; rfl
  rw [f_is_ratio]
  refine run_1 (τ := [.val d]) rfl ?_ rfl rfl
  show m_is_ratio [.val d] = _
  unfold m_is_ratio
  refine seq_rt ?_
  have c : bOr (bNot (bVal (eCallV f_are_integers (lCons (eVar 0) lNil)))) (bVal (eOp fNe (eCB fLen (lCons (eVar 0) lNil)) (eLit (.int 2)))) [.val d] = .ok (true, [.val d]) := by
    have c1 : bNot (bVal (eCallV f_are_integers (lCons (eVar 0) lNil))) [.val d] = .ok (false, [.val d]) := nt_f (bv (call_1 (var_v rfl) tk_v e1))
    simp only [bor_ap, bnd_ap, c1, Bool.false_eq_true, if_false]
    exact bv (op_v (f := fNe) (s1 := .val (.int (ns.length : Int))) (cb_1 (var_v rfl) pk_v l) lit_v pk_v pk_v n2)
  rw [if_t c]
  exact ret_v lit_v
theorem ratio_no {d : D} (h : f_are_integers [.val d] = .ok (.val (.bl false), [.non])) : f_is_ratio [.val d] = .ok (.val (.bl false), [.non]) := by
  simp only [f_is_ratio, m_is_ratio, h, bnd_ap, of_ap, seq_ap, asg_ap, ret_ap, retN_ap, sif_ap, expr_ap, par_ap, par3_ap, asgT_ap, nil_ap, brk_ap, cnt_ap, give_val, give_own, give_ali, take_val, take_own, take_ali, ta_nil, ta_cons, pk_val, pk_own, pk_ali, pa_nil', pa_cons', var_ap, lit_ap, op_ap, un_ap, cb_ap, lc_ap, ln_ap, tup_ap, lst_ap, cv_ap, ck_ap, cl_ap, and_ap, or_ap, not_ap, eif_ap, bval_ap, bnot_ap, band_ap, bor_ap, gnam_ap, gtup_ap, gend_ap, gcons_ap, rng_ap, for_ap, loop_nil, setIx_ap, run_ap, M.ret, unpk, asB, back, retS, fit_of, sInt, sBl, fIx, fLen, fAbs, fInt, fList, Mi.isNon, fIsN, fNotN, fCmp, fLt, fLe, fGt, fGe, fAdd, fSub, fNeg, O.frz, Mi.pick, List.getElem?_cons_zero, List.getElem?_cons_succ, List.getElem?_nil, List.set_cons_zero, List.set_cons_succ, List.map_cons, List.map_nil, List.length_cons, List.length_nil, List.replicate_succ, List.replicate_zero, List.cons_append, List.nil_append, Option.map_some, Option.map_none, if_true, if_false, Bool.false_eq_true, Bool.not_true, Bool.not_false, decide_true, decide_false, reduceIte, ne_eq, not_true_eq_false, not_false_eq_true, List.getD_cons_zero, List.getD_cons_succ, Nat.reduceAdd, Nat.reduceSub, Nat.reduceLeDiff, Nat.reduceEqDiff, atI_0, atI_1, atI_2, lam_ap, append_ap, make_ap, setF_ap, own_ap, meth_ap, methD_ap, norm_val, norm_own, norm_ali, onMethD_ap, onMeth_val, onMeth_ali, lz_ap, raise_ap, try_ap, thunk_raw, thunk_exc, byes_ap, Mi.insAt, lendTo, hand, eChain, Mi.isL, onL, okFl]
theorem lowest_ok {a b : Int} (hb : b ≠ 0) (h1 : a.natAbs < 2 ^ 60) (h2 : b.natAbs < 2 ^ 60) : ∃ p q s : Int, f_lowest [.val (.int a), .val (.int b)] = .ok (.val (.tup [.int p, .int q]), [.non, .non]) ∧ s ≠ 0 ∧ a = s * p ∧ b = s * q ∧ 0 < q ∧ gcdL [p, q] = 1 := by
  have n1 := need_any a (.str "number")
  have n2 := need_any b (.str "by")
  have ms := measure_ok (d := .lst [.int a, .int b]) (ns := [a, b]) rfl
  obtain ⟨g, hg⟩ : ∃ g, g = gcdL [a, b] := ⟨_, rfl⟩
  have da : g ∣ a.natAbs := by rw [hg]; exact gcdL_dvd (by simp)
  have db : g ∣ b.natAbs := by rw [hg]; exact gcdL_dvd (by simp)
  have gz : g ≠ 0 := fun z => by
    rw [z] at db
    have := Nat.eq_zero_of_zero_dvd db
    omega
  have gl : g ≤ b.natAbs := Nat.le_of_dvd (by omega) db
  rw [← hg] at ms
  have e0 : fEq (.int b) (.int 0) = some (.val (.bl false)) := by rw [Mi.eq_int]; simp [hb]
  obtain ⟨s, hs⟩ : ∃ s : Int, s = if 0 < b then (g : Int) else -(g : Int) := ⟨_, rfl⟩
  have sa : s.natAbs = g := by rw [hs]; split <;> omega
  have s0 : s ≠ 0 := by omega
  have dv := fun i => div_ok (i := i) s0 (Nat.lt_of_lt_of_le (show s.natAbs < 2 ^ 60 by omega) (Nat.pow_le_pow_right (by decide) (by decide)))
  rw [← sa] at da db
  obtain ⟨p, hp⟩ := Int.natAbs_dvd_natAbs.mp da
  obtain ⟨q, hq⟩ := Int.natAbs_dvd_natAbs.mp db
  have dp : a.fdiv s = p := by rw [hp, Int.mul_fdiv_cancel_left _ s0]
  have dq : b.fdiv s = q := by rw [hq, Int.mul_fdiv_cancel_left _ s0]
  refine ⟨p, q, s, ?_, s0, hp, hq, ?_, ?_⟩
  · have il : f_in_lowest [.val (.int a), .val (.int b)] = .ok (.val (.tup [.int p, .int q]), [.non, .non]) := by
      by_cases pb : 0 < b
      · rw [if_pos pb] at hs
        rw [hs] at dv dp dq
        simp only [f_in_lowest, m_in_lowest, pb, ms, dv, dp, dq, bnd_ap, of_ap, seq_ap, asg_ap, ret_ap, retN_ap, sif_ap, expr_ap, par_ap, par3_ap, asgT_ap, nil_ap, brk_ap, cnt_ap, give_val, give_own, give_ali, take_val, take_own, take_ali, ta_nil, ta_cons, pk_val, pk_own, pk_ali, pa_nil', pa_cons', var_ap, lit_ap, op_ap, un_ap, cb_ap, lc_ap, ln_ap, tup_ap, lst_ap, cv_ap, ck_ap, cl_ap, and_ap, or_ap, not_ap, eif_ap, bval_ap, bnot_ap, band_ap, bor_ap, gnam_ap, gtup_ap, gend_ap, gcons_ap, rng_ap, for_ap, loop_nil, setIx_ap, run_ap, M.ret, unpk, asB, back, retS, fit_of, sInt, sBl, fIx, fLen, fAbs, fInt, fList, Mi.isNon, fIsN, fNotN, fCmp, fLt, fLe, fGt, fGe, fAdd, fSub, fNeg, O.frz, Mi.pick, List.getElem?_cons_zero, List.getElem?_cons_succ, List.getElem?_nil, List.set_cons_zero, List.set_cons_succ, List.map_cons, List.map_nil, List.length_cons, List.length_nil, List.replicate_succ, List.replicate_zero, List.cons_append, List.nil_append, Option.map_some, Option.map_none, if_true, if_false, Bool.false_eq_true, Bool.not_true, Bool.not_false, decide_true, decide_false, reduceIte, ne_eq, not_true_eq_false, not_false_eq_true, List.getD_cons_zero, List.getD_cons_succ, Nat.reduceAdd, Nat.reduceSub, Nat.reduceLeDiff, Nat.reduceEqDiff, atI_0, atI_1, atI_2, lam_ap, append_ap, make_ap, setF_ap, own_ap, meth_ap, methD_ap, norm_val, norm_own, norm_ali, onMethD_ap, onMeth_val, onMeth_ali, lz_ap, raise_ap, try_ap, thunk_raw, thunk_exc, byes_ap, Mi.insAt, lendTo, hand, eChain, Mi.isL, onL, okFl]
      · rw [if_neg pb] at hs
        rw [hs] at dv dp dq
        simp only [f_in_lowest, m_in_lowest, pb, ms, dv, dp, dq, bnd_ap, of_ap, seq_ap, asg_ap, ret_ap, retN_ap, sif_ap, expr_ap, par_ap, par3_ap, asgT_ap, nil_ap, brk_ap, cnt_ap, give_val, give_own, give_ali, take_val, take_own, take_ali, ta_nil, ta_cons, pk_val, pk_own, pk_ali, pa_nil', pa_cons', var_ap, lit_ap, op_ap, un_ap, cb_ap, lc_ap, ln_ap, tup_ap, lst_ap, cv_ap, ck_ap, cl_ap, and_ap, or_ap, not_ap, eif_ap, bval_ap, bnot_ap, band_ap, bor_ap, gnam_ap, gtup_ap, gend_ap, gcons_ap, rng_ap, for_ap, loop_nil, setIx_ap, run_ap, M.ret, unpk, asB, back, retS, fit_of, sInt, sBl, fIx, fLen, fAbs, fInt, fList, Mi.isNon, fIsN, fNotN, fCmp, fLt, fLe, fGt, fGe, fAdd, fSub, fNeg, O.frz, Mi.pick, List.getElem?_cons_zero, List.getElem?_cons_succ, List.getElem?_nil, List.set_cons_zero, List.set_cons_succ, List.map_cons, List.map_nil, List.length_cons, List.length_nil, List.replicate_succ, List.replicate_zero, List.cons_append, List.nil_append, Option.map_some, Option.map_none, if_true, if_false, Bool.false_eq_true, Bool.not_true, Bool.not_false, decide_true, decide_false, reduceIte, ne_eq, not_true_eq_false, not_false_eq_true, List.getD_cons_zero, List.getD_cons_succ, Nat.reduceAdd, Nat.reduceSub, Nat.reduceLeDiff, Nat.reduceEqDiff, atI_0, atI_1, atI_2, lam_ap, append_ap, make_ap, setF_ap, own_ap, meth_ap, methD_ap, norm_val, norm_own, norm_ali, onMethD_ap, onMeth_val, onMeth_ali, lz_ap, raise_ap, try_ap, thunk_raw, thunk_exc, byes_ap, Mi.insAt, lendTo, hand, eChain, Mi.isL, onL, okFl]
    simp only [f_lowest, m_lowest, n1, n2, e0, il, bnd_ap, of_ap, seq_ap, asg_ap, ret_ap, retN_ap, sif_ap, expr_ap, par_ap, par3_ap, asgT_ap, nil_ap, brk_ap, cnt_ap, give_val, give_own, give_ali, take_val, take_own, take_ali, ta_nil, ta_cons, pk_val, pk_own, pk_ali, pa_nil', pa_cons', var_ap, lit_ap, op_ap, un_ap, cb_ap, lc_ap, ln_ap, tup_ap, lst_ap, cv_ap, ck_ap, cl_ap, and_ap, or_ap, not_ap, eif_ap, bval_ap, bnot_ap, band_ap, bor_ap, gnam_ap, gtup_ap, gend_ap, gcons_ap, rng_ap, for_ap, loop_nil, setIx_ap, run_ap, M.ret, unpk, asB, back, retS, fit_of, sInt, sBl, fIx, fLen, fAbs, fInt, fList, Mi.isNon, fIsN, fNotN, fCmp, fLt, fLe, fGt, fGe, fAdd, fSub, fNeg, O.frz, Mi.pick, List.getElem?_cons_zero, List.getElem?_cons_succ, List.getElem?_nil, List.set_cons_zero, List.set_cons_succ, List.map_cons, List.map_nil, List.length_cons, List.length_nil, List.replicate_succ, List.replicate_zero, List.cons_append, List.nil_append, Option.map_some, Option.map_none, if_true, if_false, Bool.false_eq_true, Bool.not_true, Bool.not_false, decide_true, decide_false, reduceIte, ne_eq, not_true_eq_false, not_false_eq_true, List.getD_cons_zero, List.getD_cons_succ, Nat.reduceAdd, Nat.reduceSub, Nat.reduceLeDiff, Nat.reduceEqDiff, atI_0, atI_1, atI_2, lam_ap, append_ap, make_ap, setF_ap, own_ap, meth_ap, methD_ap, norm_val, norm_own, norm_ali, onMethD_ap, onMeth_val, onMeth_ali, lz_ap, raise_ap, try_ap, thunk_raw, thunk_exc, byes_ap, Mi.insAt, lendTo, hand, eChain, Mi.isL, onL, okFl]
  · by_cases pb : 0 < b
    · rw [if_pos pb] at hs
      apply Classical.byContradiction
      intro nq
      have := Int.mul_nonpos_of_nonneg_of_nonpos (a := s) (b := q) (by omega) (by omega)
      omega
    · rw [if_neg pb] at hs
      apply Classical.byContradiction
      intro nq
      have := Int.mul_nonneg_of_nonpos_of_nonpos (a := s) (b := q) (by omega) (by omega)
      omega
  · have e := gcdL_mul s [p, q]
    simp only [List.map_cons, List.map_nil] at e
    rw [← hp, ← hq, ← hg, sa] at e
    have : g * 1 = g * gcdL [p, q] := by omega
    exact (Nat.eq_of_mul_eq_mul_left (by omega) this).symm
def oddR : List D := [.tup [.int 1, .bl true], .tup [.bl false, .int 1], .tup [.int 1], .tup [.int 1, .int 2, .int 3], .str "12", .non, .tup [.int 1, .int 0], .tup [.int 0, .int 2], .tup [.int 2, .int (-3)], .dic [(.inl 1, .int 2)], .tup [.int 1, .non], .tup []]
theorem oddR_no {d : D} (h : d ∈ oddR) : f_is_ratio [.val d] = .ok (.val (.bl false), [.non]) := by
  simp only [oddR, List.mem_cons, List.not_mem_nil, or_false] at h
  have two : ∀ a b : Int, (decide (0 < b) && gcdL [a, b] == 1) = false → f_is_ratio [.val (.tup [.int a, .int b])] = .ok (.val (.bl false), [.non]) := fun a b e => by
    rw [ratio_2 (d := .tup [.int a, .int b]) (.inr rfl), e]
  rcases h with rfl | rfl | rfl | rfl | rfl | rfl | rfl | rfl | rfl | rfl | rfl | rfl
  · exact ratio_no (are_no rfl (fun xs e => by cases e; exact ⟨by decide, rfl⟩) rfl)
  · exact ratio_no (are_no rfl (fun xs e => by cases e; exact ⟨by decide, rfl⟩) rfl)
  · exact ratio_n (ns := [1]) (.inr rfl) (by decide) (by decide)
  · exact ratio_n (ns := [1, 2, 3]) (.inr rfl) (by decide) (by decide)
  · exact ratio_no (are_no rfl (fun xs e => by cases e) rfl)
  · exact ratio_no (are_no rfl (fun xs e => by cases e) rfl)
  · exact two 1 0 (by decide)
  · exact two 0 2 (by decide)
  · exact two 2 (-3) (by decide)
  · exact ratio_no (are_no rfl (fun xs e => by cases e) rfl)
  · exact ratio_no (are_no rfl (fun xs e => by cases e; exact ⟨by decide, rfl⟩) rfl)
  · exact ratio_n (ns := []) (.inr rfl) (by decide) (by decide)
theorem p20 : fPow (.int 10) (.int 20) = some (.val (.int (10 ^ 20))) := by
  rw [pow_ok (by decide) (by decide) (by decide)]
  rfl
theorem ratios_right_v {o : O} {k : Nat} (h : VS o k) (hk : k < 800000) : ∃ o', f__law_ratios_right [.lent 0 o] = .ok (.val (.bl true), [.lent 0 o']) ∧ VS o' (k + 40) := by
  obtain ⟨sh, o1, e1, a1, b1, v1⟩ := dip_v (many := 30) h (by omega) (by decide) (by decide)
  obtain ⟨x, o2, e2, a2, b2, v2⟩ := dip_v (many := 41) v1 (by omega) (by decide) (by decide)
  obtain ⟨y, o3, e3, a3, b3, v3⟩ := dip_v (many := 41) v2 (by omega) (by decide) (by decide)
  obtain ⟨od, o4, e4, m4, v4⟩ := pick_v (xs := oddR) v3 (by omega) (by decide) (by decide)
  refine ⟨o4, ?_, v4.up (by omega)⟩
  have w1 := mul_l (i := x - 20) (j := sh) (by omega)
  have w2 := mul_l (i := y - 20) (j := sh) (by omega)
  obtain ⟨a, ha⟩ : ∃ a, a = (x - 20) * sh := ⟨_, rfl⟩
  obtain ⟨b, hb⟩ : ∃ b, b = (y - 20) * sh := ⟨_, rfl⟩
  have ba : a.natAbs ≤ 600 := by
    rw [ha, Int.natAbs_mul]
    have := Nat.mul_le_mul (show (x - 20).natAbs ≤ 20 by omega) (show sh.natAbs ≤ 29 by omega)
    omega
  have bb : b.natAbs ≤ 600 := by
    rw [hb, Int.natAbs_mul]
    have := Nat.mul_le_mul (show (y - 20).natAbs ≤ 20 by omega) (show sh.natAbs ≤ 29 by omega)
    omega
  rw [← ha] at w1
  rw [← hb] at w2
  have lm := lawmeasure_ok (ns := [a, b]) (fun n hn => by
    simp only [List.mem_cons, List.not_mem_nil, or_false] at hn
    rcases hn with rfl | rfl <;> omega) (by simp)
  simp only [List.map_cons, List.map_nil] at lm
  obtain ⟨du, hdu⟩ : ∃ du : Bool, du = (decide (0 < b) && gcdL [a, b] == 1) := ⟨_, rfl⟩
  have r1 := ratio_2 (d := .tup [.int a, .int b]) (a := a) (b := b) (.inr rfl)
  have r2 := ratio_2 (d := .lst [.int a, .int b]) (a := a) (b := b) (.inl rfl)
  rw [← hdu] at r1 r2
  have q : fEq (.int (gcdL [a, b] : Int)) (.int 1) = some (.val (.bl (gcdL [a, b] == 1))) := by
    rw [Mi.eq_int]
    congr 3
    rw [Bool.eq_iff_iff, beq_iff_eq, beq_iff_eq]
    omega
  -- lowest
  have low : ∃ r5, (sIf (bVal (eOp fNe (eVar 3) (eLit (.int 0)))) (sSeq (sAsg 5 (eCallK [0, 1] 2 f_lowest (lCons (eVar 2) (lCons (eVar 3) (lNil))))) (sIf (bOr (bNot (bVal (eCB (fIsi isT) (lCons (eVar 5) (lCons (eLit (.ty "tuple")) (lNil)))))) (bOr (bNot (bVal (eCallV f_is_ratio (lCons (eVar 5) (lNil))))) (bVal (eOp fNe (eOp fMul (eOp fIx (eVar 5) (eLit (.int 0))) (eVar 3)) (eOp fMul (eOp fIx (eVar 5) (eLit (.int 1))) (eVar 2)))))) (sRet (eLit (.bl false))) (sNil))) (sNil)) [.lent 0 o3, .val (.int sh), .val (.int a), .val (.int b), .val (.bl du), .non, .non] = .ok (.nx, [.lent 0 o3, .val (.int sh), .val (.int a), .val (.int b), .val (.bl du), r5, .non]) := by
    by_cases z : b = 0
    · have ne : fNe (.int b) (.int 0) = some (.val (.bl false)) := by rw [Mi.ne_int, z]; rfl
      exact ⟨.non, if_skip (bv (op_v (var_v rfl) lit_v pk_v pk_v ne))⟩
    · have ne : fNe (.int b) (.int 0) = some (.val (.bl true)) := by rw [Mi.ne_int]; simp [z]
      obtain ⟨p, q, s, el, s0, hp, hq, q0, gq⟩ := lowest_ok (a := a) (b := b) z (by omega) (by omega)
      have rr := ratio_2 (d := .tup [.int p, .int q]) (a := p) (b := q) (.inr rfl)
      have tr : (decide (0 < q) && gcdL [p, q] == 1) = true := by rw [decide_eq_true q0, gq]; rfl
      rw [tr] at rr
      have pa : p.natAbs ≤ 600 := by
        have : 1 * p.natAbs ≤ s.natAbs * p.natAbs := Nat.mul_le_mul_right _ (by omega)
        rw [← Int.natAbs_mul, ← hp] at this
        omega
      have qa : q.natAbs ≤ 600 := by
        have : 1 * q.natAbs ≤ s.natAbs * q.natAbs := Nat.mul_le_mul_right _ (by omega)
        rw [← Int.natAbs_mul, ← hq] at this
        omega
      have m1 := mul_l (i := p) (j := b) (by omega)
      have m2 := mul_l (i := q) (j := a) (by omega)
      have eqm : p * b = q * a := by rw [hp, hq]; grind
      have nn : fNe (.int (p * b)) (.int (q * a)) = some (.val (.bl false)) := by rw [Mi.ne_int, eqm, beq_self_eq_true]; rfl
      have it : fIsi isT [.tup [.int p, .int q], .ty "tuple"] = some (.val (.bl true)) := rfl
      refine ⟨.val (.tup [.int p, .int q]), ?_⟩
      rw [if_t (bv (op_v (var_v rfl) lit_v pk_v pk_v ne))]
      simp only [el, it, rr, m1, m2, nn, bnd_ap, of_ap, seq_ap, asg_ap, ret_ap, retN_ap, sif_ap, expr_ap, par_ap, par3_ap, asgT_ap, nil_ap, brk_ap, cnt_ap, give_val, give_own, give_ali, take_val, take_own, take_ali, ta_nil, ta_cons, pk_val, pk_own, pk_ali, pa_nil', pa_cons', var_ap, lit_ap, op_ap, un_ap, cb_ap, lc_ap, ln_ap, tup_ap, lst_ap, cv_ap, ck_ap, cl_ap, and_ap, or_ap, not_ap, eif_ap, bval_ap, bnot_ap, band_ap, bor_ap, gnam_ap, gtup_ap, gend_ap, gcons_ap, rng_ap, for_ap, loop_nil, setIx_ap, run_ap, M.ret, unpk, asB, back, retS, fit_of, sInt, sBl, fIx, fLen, fAbs, fInt, fList, Mi.isNon, fIsN, fNotN, fCmp, fLt, fLe, fGt, fGe, fAdd, fSub, fNeg, O.frz, Mi.pick, List.getElem?_cons_zero, List.getElem?_cons_succ, List.getElem?_nil, List.set_cons_zero, List.set_cons_succ, List.map_cons, List.map_nil, List.length_cons, List.length_nil, List.replicate_succ, List.replicate_zero, List.cons_append, List.nil_append, Option.map_some, Option.map_none, if_true, if_false, Bool.false_eq_true, Bool.not_true, Bool.not_false, decide_true, decide_false, reduceIte, ne_eq, not_true_eq_false, not_false_eq_true, List.getD_cons_zero, List.getD_cons_succ, Nat.reduceAdd, Nat.reduceSub, Nat.reduceLeDiff, Nat.reduceEqDiff, atI_0, atI_1, atI_2, lam_ap, append_ap, make_ap, setF_ap, own_ap, meth_ap, methD_ap, norm_val, norm_own, norm_ali, onMethD_ap, onMeth_val, onMeth_ali, lz_ap, raise_ap, try_ap, thunk_raw, thunk_exc, byes_ap, Mi.insAt, lendTo, hand, eChain, Mi.isL, onL, okFl]
  obtain ⟨r5, el⟩ := low
  rw [f__law_ratios_right]
  refine run_1 (τ := [.lent 0 o4, .val (.int sh), .val (.int a), .val (.int b), .val (.bl du), r5, .val od]) rfl ?_ rfl rfl
  show m__law_ratios_right [.lent 0 o, .non, .non, .non, .non, .non, .non] = _
  unfold m__law_ratios_right
  refine at_seq (τ1 := [.lent 0 o3, .val (.int sh), .val (.int (x - 20)), .val (.int (y - 20)), .non, .non, .non]) (by simp only [e1, e2, e3, lendTo, hand, bnd_ap, of_ap, seq_ap, asg_ap, ret_ap, retN_ap, sif_ap, expr_ap, par_ap, par3_ap, asgT_ap, nil_ap, brk_ap, cnt_ap, give_val, give_own, give_ali, take_val, take_own, take_ali, ta_nil, ta_cons, pk_val, pk_own, pk_ali, pa_nil', pa_cons', var_ap, lit_ap, op_ap, un_ap, cb_ap, lc_ap, ln_ap, tup_ap, lst_ap, cv_ap, ck_ap, cl_ap, and_ap, or_ap, not_ap, eif_ap, bval_ap, bnot_ap, band_ap, bor_ap, gnam_ap, gtup_ap, gend_ap, gcons_ap, rng_ap, for_ap, loop_nil, setIx_ap, run_ap, M.ret, unpk, asB, back, retS, fit_of, sInt, sBl, fIx, fLen, fAbs, fInt, fList, Mi.isNon, fIsN, fNotN, fCmp, fLt, fLe, fGt, fGe, fAdd, fSub, fNeg, O.frz, Mi.pick, List.getElem?_cons_zero, List.getElem?_cons_succ, List.getElem?_nil, List.set_cons_zero, List.set_cons_succ, List.map_cons, List.map_nil, List.length_cons, List.length_nil, List.replicate_succ, List.replicate_zero, List.cons_append, List.nil_append, Option.map_some, Option.map_none, if_true, if_false, Bool.false_eq_true, Bool.not_true, Bool.not_false, decide_true, decide_false, reduceIte, ne_eq, not_true_eq_false, not_false_eq_true, List.getD_cons_zero, List.getD_cons_succ, Nat.reduceAdd, Nat.reduceSub, Nat.reduceLeDiff, Nat.reduceEqDiff, atI_0, atI_1, atI_2, lam_ap, append_ap, make_ap, setF_ap, own_ap, meth_ap, methD_ap, norm_val, norm_own, norm_ali, onMethD_ap, onMeth_val, onMeth_ali, lz_ap, raise_ap, try_ap, thunk_raw, thunk_exc, byes_ap, Mi.insAt, lendTo, hand, eChain, Mi.isL, onL, okFl]) ?_
  refine at_seq (τ1 := [.lent 0 o3, .val (.int sh), .val (.int a), .val (.int b), .non, .non, .non]) (by simp only [w1, w2, bnd_ap, of_ap, seq_ap, asg_ap, ret_ap, retN_ap, sif_ap, expr_ap, par_ap, par3_ap, asgT_ap, nil_ap, brk_ap, cnt_ap, give_val, give_own, give_ali, take_val, take_own, take_ali, ta_nil, ta_cons, pk_val, pk_own, pk_ali, pa_nil', pa_cons', var_ap, lit_ap, op_ap, un_ap, cb_ap, lc_ap, ln_ap, tup_ap, lst_ap, cv_ap, ck_ap, cl_ap, and_ap, or_ap, not_ap, eif_ap, bval_ap, bnot_ap, band_ap, bor_ap, gnam_ap, gtup_ap, gend_ap, gcons_ap, rng_ap, for_ap, loop_nil, setIx_ap, run_ap, M.ret, unpk, asB, back, retS, fit_of, sInt, sBl, fIx, fLen, fAbs, fInt, fList, Mi.isNon, fIsN, fNotN, fCmp, fLt, fLe, fGt, fGe, fAdd, fSub, fNeg, O.frz, Mi.pick, List.getElem?_cons_zero, List.getElem?_cons_succ, List.getElem?_nil, List.set_cons_zero, List.set_cons_succ, List.map_cons, List.map_nil, List.length_cons, List.length_nil, List.replicate_succ, List.replicate_zero, List.cons_append, List.nil_append, Option.map_some, Option.map_none, if_true, if_false, Bool.false_eq_true, Bool.not_true, Bool.not_false, decide_true, decide_false, reduceIte, ne_eq, not_true_eq_false, not_false_eq_true, List.getD_cons_zero, List.getD_cons_succ, Nat.reduceAdd, Nat.reduceSub, Nat.reduceLeDiff, Nat.reduceEqDiff, atI_0, atI_1, atI_2, lam_ap, append_ap, make_ap, setF_ap, own_ap, meth_ap, methD_ap, norm_val, norm_own, norm_ali, onMethD_ap, onMeth_val, onMeth_ali, lz_ap, raise_ap, try_ap, thunk_raw, thunk_exc, byes_ap, Mi.insAt, lendTo, hand, eChain, Mi.isL, onL, okFl]) ?_
  refine at_seq (τ1 := [.lent 0 o3, .val (.int sh), .val (.int a), .val (.int b), .val (.bl du), .non, .non]) ?_ ?_
  · have c1 : eOp fGt (eVar 3) (eLit (.int 0)) [.lent 0 o3, .val (.int sh), .val (.int a), .val (.int b), .non, .non, .non] = .ok (.val (.bl (decide (0 < b))), [.lent 0 o3, .val (.int sh), .val (.int a), .val (.int b), .non, .non, .non]) := op_v (f := fGt) (var_v rfl) lit_v pk_v pk_v rfl
    have c2 : eOp fEq (eCallV f__law_measure (lCons (eLst (lCons (eVar 2) (lCons (eVar 3) (lNil)))) (lNil))) (eLit (.int 1)) [.lent 0 o3, .val (.int sh), .val (.int a), .val (.int b), .non, .non, .non] = .ok (.val (.bl (gcdL [a, b] == 1)), [.lent 0 o3, .val (.int sh), .val (.int a), .val (.int b), .non, .non, .non]) :=
      op_v (f := fEq) (call_1 (s1 := .own (.lst [.int a, .int b])) (τ1 := [.lent 0 o3, .val (.int sh), .val (.int a), .val (.int b), .non, .non, .non]) (by simp only [bnd_ap, of_ap, seq_ap, asg_ap, ret_ap, retN_ap, sif_ap, expr_ap, par_ap, par3_ap, asgT_ap, nil_ap, brk_ap, cnt_ap, give_val, give_own, give_ali, take_val, take_own, take_ali, ta_nil, ta_cons, pk_val, pk_own, pk_ali, pa_nil', pa_cons', var_ap, lit_ap, op_ap, un_ap, cb_ap, lc_ap, ln_ap, tup_ap, lst_ap, cv_ap, ck_ap, cl_ap, and_ap, or_ap, not_ap, eif_ap, bval_ap, bnot_ap, band_ap, bor_ap, gnam_ap, gtup_ap, gend_ap, gcons_ap, rng_ap, for_ap, loop_nil, setIx_ap, run_ap, M.ret, unpk, asB, back, retS, fit_of, sInt, sBl, fIx, fLen, fAbs, fInt, fList, Mi.isNon, fIsN, fNotN, fCmp, fLt, fLe, fGt, fGe, fAdd, fSub, fNeg, O.frz, Mi.pick, List.getElem?_cons_zero, List.getElem?_cons_succ, List.getElem?_nil, List.set_cons_zero, List.set_cons_succ, List.map_cons, List.map_nil, List.length_cons, List.length_nil, List.replicate_succ, List.replicate_zero, List.cons_append, List.nil_append, Option.map_some, Option.map_none, if_true, if_false, Bool.false_eq_true, Bool.not_true, Bool.not_false, decide_true, decide_false, reduceIte, ne_eq, not_true_eq_false, not_false_eq_true, List.getD_cons_zero, List.getD_cons_succ, Nat.reduceAdd, Nat.reduceSub, Nat.reduceLeDiff, Nat.reduceEqDiff, atI_0, atI_1, atI_2, lam_ap, append_ap, make_ap, setF_ap, own_ap, meth_ap, methD_ap, norm_val, norm_own, norm_ali, onMethD_ap, onMeth_val, onMeth_ali, lz_ap, raise_ap, try_ap, thunk_raw, thunk_exc, byes_ap, Mi.insAt, lendTo, hand, eChain, Mi.isL, onL, okFl]) tk_o lm) lit_v pk_v pk_v q
    have c3 := eand_v c1 c2
    rw [← hdu] at c3
    exact asg_v c3
  refine at_seq (τ1 := [.lent 0 o3, .val (.int sh), .val (.int a), .val (.int b), .val (.bl du), .non, .non]) (if_skip (or_ff (nt_f (bv (same_t (a := du) (b := du) (τ1 := [.lent 0 o3, .val (.int sh), .val (.int a), .val (.int b), .val (.bl du), .non, .non]) ?_ (var_v rfl) rfl))) (nt_f (bv (same_t (a := du) (b := du) (τ1 := [.lent 0 o3, .val (.int sh), .val (.int a), .val (.int b), .val (.bl du), .non, .non]) ?_ (var_v rfl) rfl))))) ?_
  · exact call_1 (s1 := .val (.tup [.int a, .int b])) (τ1 := [.lent 0 o3, .val (.int sh), .val (.int a), .val (.int b), .val (.bl du), .non, .non]) (by simp only [bnd_ap, of_ap, seq_ap, asg_ap, ret_ap, retN_ap, sif_ap, expr_ap, par_ap, par3_ap, asgT_ap, nil_ap, brk_ap, cnt_ap, give_val, give_own, give_ali, take_val, take_own, take_ali, ta_nil, ta_cons, pk_val, pk_own, pk_ali, pa_nil', pa_cons', var_ap, lit_ap, op_ap, un_ap, cb_ap, lc_ap, ln_ap, tup_ap, lst_ap, cv_ap, ck_ap, cl_ap, and_ap, or_ap, not_ap, eif_ap, bval_ap, bnot_ap, band_ap, bor_ap, gnam_ap, gtup_ap, gend_ap, gcons_ap, rng_ap, for_ap, loop_nil, setIx_ap, run_ap, M.ret, unpk, asB, back, retS, fit_of, sInt, sBl, fIx, fLen, fAbs, fInt, fList, Mi.isNon, fIsN, fNotN, fCmp, fLt, fLe, fGt, fGe, fAdd, fSub, fNeg, O.frz, Mi.pick, List.getElem?_cons_zero, List.getElem?_cons_succ, List.getElem?_nil, List.set_cons_zero, List.set_cons_succ, List.map_cons, List.map_nil, List.length_cons, List.length_nil, List.replicate_succ, List.replicate_zero, List.cons_append, List.nil_append, Option.map_some, Option.map_none, if_true, if_false, Bool.false_eq_true, Bool.not_true, Bool.not_false, decide_true, decide_false, reduceIte, ne_eq, not_true_eq_false, not_false_eq_true, List.getD_cons_zero, List.getD_cons_succ, Nat.reduceAdd, Nat.reduceSub, Nat.reduceLeDiff, Nat.reduceEqDiff, atI_0, atI_1, atI_2, lam_ap, append_ap, make_ap, setF_ap, own_ap, meth_ap, methD_ap, norm_val, norm_own, norm_ali, onMethD_ap, onMeth_val, onMeth_ali, lz_ap, raise_ap, try_ap, thunk_raw, thunk_exc, byes_ap, Mi.insAt, lendTo, hand, eChain, Mi.isL, onL, okFl]) tk_v r1
  · simp only [r2, bnd_ap, of_ap, seq_ap, asg_ap, ret_ap, retN_ap, sif_ap, expr_ap, par_ap, par3_ap, asgT_ap, nil_ap, brk_ap, cnt_ap, give_val, give_own, give_ali, take_val, take_own, take_ali, ta_nil, ta_cons, pk_val, pk_own, pk_ali, pa_nil', pa_cons', var_ap, lit_ap, op_ap, un_ap, cb_ap, lc_ap, ln_ap, tup_ap, lst_ap, cv_ap, ck_ap, cl_ap, and_ap, or_ap, not_ap, eif_ap, bval_ap, bnot_ap, band_ap, bor_ap, gnam_ap, gtup_ap, gend_ap, gcons_ap, rng_ap, for_ap, loop_nil, setIx_ap, run_ap, M.ret, unpk, asB, back, retS, fit_of, sInt, sBl, fIx, fLen, fAbs, fInt, fList, Mi.isNon, fIsN, fNotN, fCmp, fLt, fLe, fGt, fGe, fAdd, fSub, fNeg, O.frz, Mi.pick, List.getElem?_cons_zero, List.getElem?_cons_succ, List.getElem?_nil, List.set_cons_zero, List.set_cons_succ, List.map_cons, List.map_nil, List.length_cons, List.length_nil, List.replicate_succ, List.replicate_zero, List.cons_append, List.nil_append, Option.map_some, Option.map_none, if_true, if_false, Bool.false_eq_true, Bool.not_true, Bool.not_false, decide_true, decide_false, reduceIte, ne_eq, not_true_eq_false, not_false_eq_true, List.getD_cons_zero, List.getD_cons_succ, Nat.reduceAdd, Nat.reduceSub, Nat.reduceLeDiff, Nat.reduceEqDiff, atI_0, atI_1, atI_2, lam_ap, append_ap, make_ap, setF_ap, own_ap, meth_ap, methD_ap, norm_val, norm_own, norm_ali, onMethD_ap, onMeth_val, onMeth_ali, lz_ap, raise_ap, try_ap, thunk_raw, thunk_exc, byes_ap, Mi.insAt, lendTo, hand, eChain, Mi.isL, onL, okFl]
  refine at_seq el ?_
  refine at_seq (τ1 := [.lent 0 o4, .val (.int sh), .val (.int a), .val (.int b), .val (.bl du), r5, .val od]) (by
    unfold oddR at e4
    simp only [e4, lendTo, hand, bnd_ap, of_ap, seq_ap, asg_ap, ret_ap, retN_ap, sif_ap, expr_ap, par_ap, par3_ap, asgT_ap, nil_ap, brk_ap, cnt_ap, give_val, give_own, give_ali, take_val, take_own, take_ali, ta_nil, ta_cons, pk_val, pk_own, pk_ali, pa_nil', pa_cons', var_ap, lit_ap, op_ap, un_ap, cb_ap, lc_ap, ln_ap, tup_ap, lst_ap, cv_ap, ck_ap, cl_ap, and_ap, or_ap, not_ap, eif_ap, bval_ap, bnot_ap, band_ap, bor_ap, gnam_ap, gtup_ap, gend_ap, gcons_ap, rng_ap, for_ap, loop_nil, setIx_ap, run_ap, M.ret, unpk, asB, back, retS, fit_of, sInt, sBl, fIx, fLen, fAbs, fInt, fList, Mi.isNon, fIsN, fNotN, fCmp, fLt, fLe, fGt, fGe, fAdd, fSub, fNeg, O.frz, Mi.pick, List.getElem?_cons_zero, List.getElem?_cons_succ, List.getElem?_nil, List.set_cons_zero, List.set_cons_succ, List.map_cons, List.map_nil, List.length_cons, List.length_nil, List.replicate_succ, List.replicate_zero, List.cons_append, List.nil_append, Option.map_some, Option.map_none, if_true, if_false, Bool.false_eq_true, Bool.not_true, Bool.not_false, decide_true, decide_false, reduceIte, ne_eq, not_true_eq_false, not_false_eq_true, List.getD_cons_zero, List.getD_cons_succ, Nat.reduceAdd, Nat.reduceSub, Nat.reduceLeDiff, Nat.reduceEqDiff, atI_0, atI_1, atI_2, lam_ap, append_ap, make_ap, setF_ap, own_ap, meth_ap, methD_ap, norm_val, norm_own, norm_ali, onMethD_ap, onMeth_val, onMeth_ali, lz_ap, raise_ap, try_ap, thunk_raw, thunk_exc, byes_ap, Mi.insAt, lendTo, hand, eChain, Mi.isL, onL, okFl]) ?_
  have po := oddR_no m4
  have p1 := ratio_2 (d := .tup [.int 0, .int 1]) (a := 0) (b := 1) (.inr rfl)
  have p2 := ratio_2 (d := .tup [.int (-7), .int (10 ^ 20)]) (a := -7) (b := 10 ^ 20) (.inr rfl)
  have t1 : (decide ((0 : Int) < 1) && gcdL [0, 1] == 1) = true := by decide
  have t2 : (decide ((0 : Int) < 10 ^ 20) && gcdL [-7, 10 ^ 20] == 1) = true := by decide +kernel
  rw [t1] at p1
  rw [t2] at p2
  refine ret_v (eand_t (τ1 := [.lent 0 o4, .val (.int sh), .val (.int a), .val (.int b), .val (.bl du), r5, .val od]) (same_t (call_1 (var_v rfl) tk_v po) lit_v rfl) (eand_t (τ1 := [.lent 0 o4, .val (.int sh), .val (.int a), .val (.int b), .val (.bl du), r5, .val od]) ?_ ?_))
  · exact call_1 (s1 := .val (.tup [.int 0, .int 1])) (τ1 := [.lent 0 o4, .val (.int sh), .val (.int a), .val (.int b), .val (.bl du), r5, .val od]) (by simp only [bnd_ap, of_ap, seq_ap, asg_ap, ret_ap, retN_ap, sif_ap, expr_ap, par_ap, par3_ap, asgT_ap, nil_ap, brk_ap, cnt_ap, give_val, give_own, give_ali, take_val, take_own, take_ali, ta_nil, ta_cons, pk_val, pk_own, pk_ali, pa_nil', pa_cons', var_ap, lit_ap, op_ap, un_ap, cb_ap, lc_ap, ln_ap, tup_ap, lst_ap, cv_ap, ck_ap, cl_ap, and_ap, or_ap, not_ap, eif_ap, bval_ap, bnot_ap, band_ap, bor_ap, gnam_ap, gtup_ap, gend_ap, gcons_ap, rng_ap, for_ap, loop_nil, setIx_ap, run_ap, M.ret, unpk, asB, back, retS, fit_of, sInt, sBl, fIx, fLen, fAbs, fInt, fList, Mi.isNon, fIsN, fNotN, fCmp, fLt, fLe, fGt, fGe, fAdd, fSub, fNeg, O.frz, Mi.pick, List.getElem?_cons_zero, List.getElem?_cons_succ, List.getElem?_nil, List.set_cons_zero, List.set_cons_succ, List.map_cons, List.map_nil, List.length_cons, List.length_nil, List.replicate_succ, List.replicate_zero, List.cons_append, List.nil_append, Option.map_some, Option.map_none, if_true, if_false, Bool.false_eq_true, Bool.not_true, Bool.not_false, decide_true, decide_false, reduceIte, ne_eq, not_true_eq_false, not_false_eq_true, List.getD_cons_zero, List.getD_cons_succ, Nat.reduceAdd, Nat.reduceSub, Nat.reduceLeDiff, Nat.reduceEqDiff, atI_0, atI_1, atI_2, lam_ap, append_ap, make_ap, setF_ap, own_ap, meth_ap, methD_ap, norm_val, norm_own, norm_ali, onMethD_ap, onMeth_val, onMeth_ali, lz_ap, raise_ap, try_ap, thunk_raw, thunk_exc, byes_ap, Mi.insAt, lendTo, hand, eChain, Mi.isL, onL, okFl]) tk_v p1
  · exact call_1 (s1 := .val (.tup [.int (-7), .int (10 ^ 20)])) (τ1 := [.lent 0 o4, .val (.int sh), .val (.int a), .val (.int b), .val (.bl du), r5, .val od]) (by simp only [p20, bnd_ap, of_ap, seq_ap, asg_ap, ret_ap, retN_ap, sif_ap, expr_ap, par_ap, par3_ap, asgT_ap, nil_ap, brk_ap, cnt_ap, give_val, give_own, give_ali, take_val, take_own, take_ali, ta_nil, ta_cons, pk_val, pk_own, pk_ali, pa_nil', pa_cons', var_ap, lit_ap, op_ap, un_ap, cb_ap, lc_ap, ln_ap, tup_ap, lst_ap, cv_ap, ck_ap, cl_ap, and_ap, or_ap, not_ap, eif_ap, bval_ap, bnot_ap, band_ap, bor_ap, gnam_ap, gtup_ap, gend_ap, gcons_ap, rng_ap, for_ap, loop_nil, setIx_ap, run_ap, M.ret, unpk, asB, back, retS, fit_of, sInt, sBl, fIx, fLen, fAbs, fInt, fList, Mi.isNon, fIsN, fNotN, fCmp, fLt, fLe, fGt, fGe, fAdd, fSub, fNeg, O.frz, Mi.pick, List.getElem?_cons_zero, List.getElem?_cons_succ, List.getElem?_nil, List.set_cons_zero, List.set_cons_succ, List.map_cons, List.map_nil, List.length_cons, List.length_nil, List.replicate_succ, List.replicate_zero, List.cons_append, List.nil_append, Option.map_some, Option.map_none, if_true, if_false, Bool.false_eq_true, Bool.not_true, Bool.not_false, decide_true, decide_false, reduceIte, ne_eq, not_true_eq_false, not_false_eq_true, List.getD_cons_zero, List.getD_cons_succ, Nat.reduceAdd, Nat.reduceSub, Nat.reduceLeDiff, Nat.reduceEqDiff, atI_0, atI_1, atI_2, lam_ap, append_ap, make_ap, setF_ap, own_ap, meth_ap, methD_ap, norm_val, norm_own, norm_ali, onMethD_ap, onMeth_val, onMeth_ali, lz_ap, raise_ap, try_ap, thunk_raw, thunk_exc, byes_ap, Mi.insAt, lendTo, hand, eChain, Mi.isL, onL, okFl]) tk_v p2
end K01

namespace K01
open PySem PySem.Spec PyProof.Rows L2 Mi
/-! #### twice right -/
def dupR (seen : List Int) : List Int → Option Int
  | [] => none
  | k :: ks => if seen.contains k = true then some k else dupR (seen ++ [k]) ks
def dupL (ns : List Int) : List Int := (ns.zipIdx.filter fun p => (ns.take p.2).contains p.1).map (·.1)
theorem dup_head : ∀ (suf pre : List Int), dupR pre suf = (((suf.zipIdx pre.length).filter fun p => ((pre ++ suf).take p.2).contains p.1).map (·.1)).head?
  | [], pre => rfl
  | x :: r, pre => by
    have ih := dup_head r (pre ++ [x])
    have e1 : (pre ++ x :: r).take pre.length = pre := by simp
    rw [List.zipIdx_cons]
    unfold dupR
    by_cases h : pre.contains x = true
    · rw [if_pos h, List.filter_cons_of_pos (by simp only [e1]; exact h), List.map_cons, List.head?_cons]
    · rw [if_neg h, List.filter_cons_of_neg (by simp only [e1]; exact h), ih]
      simp only [List.length_append, List.length_cons, List.length_nil, List.append_assoc, List.cons_append, List.nil_append]
theorem dup_L (ns : List Int) : dupR [] ns = (dupL ns).head? := by
  have := dup_head ns []
  simpa [dupL] using this
theorem seen_map {f : Int → Key} {x : Int} : ∀ {seen : List Int}, (∀ y ∈ seen, f x = f y → x = y) → seenB (seen.map f) (f x) = seen.contains x
  | [], _ => rfl
  | y :: s, h => by
    have ih := seen_map (seen := s) (f := f) (x := x) fun z hz => h z (List.mem_cons_of_mem _ hz)
    unfold seenB at ih ⊢
    rw [List.map_cons, List.any_cons, ih, List.contains_cons]
    congr 1
    rw [Bool.eq_iff_iff, decide_eq_true_eq, beq_iff_eq]
    exact ⟨fun e => h y List.mem_cons_self e, fun e => by rw [e]⟩
theorem dup_map {f : Int → Key} : ∀ (ns seen : List Int), (∀ x ∈ ns ++ seen, ∀ y ∈ ns ++ seen, f x = f y → x = y) → dup1 (seen.map f) (ns.map f) = (dupR seen ns).map f
  | [], seen, _ => rfl
  | x :: r, seen, h => by
    have s := seen_map (f := f) (x := x) (seen := seen) fun y hy => h x (by simp) y (by simp [hy])
    rw [List.map_cons, dup1_cons, s]
    unfold dupR
    by_cases q : seen.contains x = true
    · rw [if_pos q, if_pos q, Option.map_some]
    · rw [if_neg q, if_neg q]
      have := dup_map (f := f) r (seen ++ [x]) fun a ha b hb => h a (by
        simp only [List.mem_append, List.mem_cons, List.not_mem_nil, or_false] at ha ⊢
        rcases ha with ha | ha | ha <;> simp [ha]) b (by
        simp only [List.mem_append, List.mem_cons, List.not_mem_nil, or_false] at hb ⊢
        rcases hb with hb | hb | hb <;> simp [hb])
      rw [List.map_append] at this
      exact this
theorem keys_map {α : Type} (f : α → D) (g : α → Key) (h : ∀ x, keyOf (f x) = some (g x)) (xs : List α) : keysD (xs.map f) = some (xs.map g) := by
  induction xs with
  | nil => rfl
  | cons x xs ih => simp only [List.map_cons, keysD, h, ih]
theorem ft_ok {d : D} {xs : List D} {ks : List Key} (hd : seqOf (.val d) = some xs) (hk : keysD xs = some ks) (hl : ks.length ≤ 1000) : f_first_twice [.val d] = .ok (.val (dupD (dup1 [] ks)), [.non]) := by
  have e : m_ft [.val d, .non, .non] = .ok (.rt (.val (dupD (dup1 [] ks))), [.val d, .non, .non]) := by
    simp only [m_ft, hd, ftD, hk, if_pos hl]
  rw [f_first_twice]
  exact run_1 (τ := [.val d, .non, .non]) rfl e rfl rfl
theorem pys_intsD (l : List Int) : D.pys (l.map .int) = some (l.map PyData.int) := by
  induction l with
  | nil => rfl
  | cons i l ih => simp only [List.map_cons, D.pys, D.py, ih]
theorem shaped_ints (l : List Int) : SeqAt.shaped (.list (l.map .int)) = true := by
  have : PyData.canLayAll0 (l.map .int) = true ∧ PyData.depthAll (l.map .int) = 0 := by
    induction l with
    | nil => exact ⟨rfl, rfl⟩
    | cons i l ih =>
      obtain ⟨h1, h2⟩ := ih
      constructor
      · simp only [List.map_cons, PyData.canLayAll0, PyData.canLay0, h1, Bool.and_self]
      · simp only [List.map_cons, PyData.depthAll, PyData.depth, h2, Nat.max_self]
  simp only [SeqAt.shaped, PyData.canLay0, PyData.depth, this.1, this.2]
  rfl
theorem eqv_int (a b : Int) : PyData.eqv (.int a) (.int b) = (a == b) := by simp [PyData.eqv]
theorem in_ints (n : Int) (l : List Int) : fIn (.int n) (.lst (l.map .int)) = some (.val (.bl (l.contains n))) := by
  have s : SeqAt.shaped (.int n) = true := rfl
  simp only [fIn, inD, D.py, pys_intsD, s, shaped_ints, and_self, if_true, Option.map_some]
  congr 3
  induction l with
  | nil => rfl
  | cons x l ih =>
    rw [List.map_cons, List.any_cons, ih, List.contains_cons, eqv_int]
    congr 1
    rw [Bool.eq_iff_iff, beq_iff_eq, beq_iff_eq]
    exact ⟨Eq.symm, Eq.symm⟩
theorem cut_take (l : List Int) (k : Nat) : cut (l.map D.int) none (some (k : Int)) = (l.take k).map D.int := by
  have e : HT.sIx (l.map D.int).length (l.map D.int).length (some (k : Int)) = min k (l.map D.int).length := HT.sIx_nat _ _ k
  unfold cut
  rw [HT.sIx_none, e, List.drop_zero, Nat.sub_zero, List.map_take]
  rw [List.take_eq_take_iff]
  simp only [List.length_map]
  omega
def tx (n : Int) : Str := ("d" : Str) ++ (toString n : Str)
theorem nine {n : Int} (h : 0 ≤ n) (h2 : n < 9) : n = 0 ∨ n = 1 ∨ n = 2 ∨ n = 3 ∨ n = 4 ∨ n = 5 ∨ n = 6 ∨ n = 7 ∨ n = 8 := by omega
theorem tx_add {n : Int} (h : 0 ≤ n) (h2 : n < 9) : fAdd (.str "d") (.str (toString n)) = some (.val (.str (tx n))) := by
  have : ("d" : Str).length + (toString n : Str).length ≤ 16777216 := by
    rcases nine h h2 with rfl | rfl | rfl | rfl | rfl | rfl | rfl | rfl | rfl <;> decide +kernel
  show (if ("d" : Str).length + (toString n : Str).length ≤ sizeLine then some (Mi.S.val (.str (tx n))) else none) = _
  rw [if_pos]
  rw [sizeLine_eq]; omega
theorem tx_shaped {n : Int} (h : 0 ≤ n) (h2 : n < 9) : SeqAt.shaped (.str (tx n)) = true := by
  rcases nine h h2 with rfl | rfl | rfl | rfl | rfl | rfl | rfl | rfl | rfl <;> decide +kernel
theorem tx_inj {n m : Int} (h : 0 ≤ n) (h2 : n < 9) (k : 0 ≤ m) (k2 : m < 9) (e : tx n = tx m) : n = m := by
  have ne : ∀ i j : Fin 9, tx (i.val : Int) = tx (j.val : Int) → i = j := by decide +kernel
  obtain ⟨a, rfl⟩ := Int.eq_ofNat_of_zero_le h
  obtain ⟨b, rfl⟩ := Int.eq_ofNat_of_zero_le k
  have := ne ⟨a, by omega⟩ ⟨b, by omega⟩ e
  have := congrArg Fin.val this
  simp only at this
  omega
theorem twice_right_v {o : O} {k : Nat} (h : VS o k) (hk : k < 800000) : ∃ o', f__law_twice_right [.lent 0 o] = .ok (.val (.bl true), [.lent 0 o']) ∧ VS o' (k + 40) := by
  obtain ⟨v, o5, e5, a5, b5, v5⟩ := dip_v (many := 6) h (by omega) (by decide) (by decide)
  have rg := rng_ok (v := v) (by omega) a5
  have rl := rng_len v
  obtain ⟨ys, o6, e6, l6, g6, v6⟩ := draw_comp (own := [2]) (mi := iRng ranged1 (lCons (eCallL f__law_dip (lCons (eVar 0) (lCons (eLit (.int 6)) (lNil)))) (lNil))) (g := gNam 2) (me := eCallL f__law_dip (lCons (eVar 0) (lCons (eLit (.int 9)) (lNil)))) (its := rangeD 0 v)
    (τ := [.lent 0 o, .non, .non, .non, .non, .non, .non]) (τ1 := [.lent 0 o5, .non, .non, .non, .non, .non, .non]) (rest := [.non, .non, .non, .non, .non, .non]) VS (fun y => ∃ i : Int, y = .int i ∧ (0 ≤ i ∧ i < 9)) 1 (by simp only [e5, rg, lendTo, hand, bnd_ap, of_ap, seq_ap, asg_ap, ret_ap, retN_ap, sif_ap, expr_ap, par_ap, par3_ap, asgT_ap, nil_ap, brk_ap, cnt_ap, give_val, give_own, give_ali, take_val, take_own, take_ali, ta_nil, ta_cons, pk_val, pk_own, pk_ali, pa_nil', pa_cons', var_ap, lit_ap, op_ap, un_ap, cb_ap, lc_ap, ln_ap, tup_ap, lst_ap, cv_ap, ck_ap, cl_ap, and_ap, or_ap, not_ap, eif_ap, bval_ap, bnot_ap, band_ap, bor_ap, gnam_ap, gtup_ap, gend_ap, gcons_ap, rng_ap, for_ap, loop_nil, setIx_ap, run_ap, M.ret, unpk, asB, back, retS, fit_of, sInt, sBl, fIx, fLen, fAbs, fInt, fList, Mi.isNon, fIsN, fNotN, fCmp, fLt, fLe, fGt, fGe, fAdd, fSub, fNeg, O.frz, Mi.pick, List.getElem?_cons_zero, List.getElem?_cons_succ, List.getElem?_nil, List.set_cons_zero, List.set_cons_succ, List.map_cons, List.map_nil, List.length_cons, List.length_nil, List.replicate_succ, List.replicate_zero, List.cons_append, List.nil_append, Option.map_some, Option.map_none, if_true, if_false, Bool.false_eq_true, Bool.not_true, Bool.not_false, decide_true, decide_false, reduceIte, ne_eq, not_true_eq_false, not_false_eq_true, List.getD_cons_zero, List.getD_cons_succ, Nat.reduceAdd, Nat.reduceSub, Nat.reduceLeDiff, Nat.reduceEqDiff, atI_0, atI_1, atI_2, lam_ap, append_ap, make_ap, setF_ap, own_ap, meth_ap, methD_ap, norm_val, norm_own, norm_ali, onMethD_ap, onMeth_val, onMeth_ali, lz_ap, raise_ap, try_ap, thunk_raw, thunk_exc, byes_ap, Mi.insAt, lendTo, hand, eChain, Mi.isL, onL, okFl]) rfl o5 (k + 1) rfl v5 (fun x hx o q hq ho => by
      rw [rl] at hq
      obtain ⟨j, o7, e7, a7, b7, v7⟩ := dip_v (many := 9) ho (by omega) (by decide) (by decide)
      exact ⟨.int j, o7, [.lent 0 o, .non, .val x, .non, .non, .non, .non], [.lent 0 o7, .non, .val x, .non, .non, .non, .non], rfl, by simp only [e7, lendTo, hand, bnd_ap, of_ap, seq_ap, asg_ap, ret_ap, retN_ap, sif_ap, expr_ap, par_ap, par3_ap, asgT_ap, nil_ap, brk_ap, cnt_ap, give_val, give_own, give_ali, take_val, take_own, take_ali, ta_nil, ta_cons, pk_val, pk_own, pk_ali, pa_nil', pa_cons', var_ap, lit_ap, op_ap, un_ap, cb_ap, lc_ap, ln_ap, tup_ap, lst_ap, cv_ap, ck_ap, cl_ap, and_ap, or_ap, not_ap, eif_ap, bval_ap, bnot_ap, band_ap, bor_ap, gnam_ap, gtup_ap, gend_ap, gcons_ap, rng_ap, for_ap, loop_nil, setIx_ap, run_ap, M.ret, unpk, asB, back, retS, fit_of, sInt, sBl, fIx, fLen, fAbs, fInt, fList, Mi.isNon, fIsN, fNotN, fCmp, fLt, fLe, fGt, fGe, fAdd, fSub, fNeg, O.frz, Mi.pick, List.getElem?_cons_zero, List.getElem?_cons_succ, List.getElem?_nil, List.set_cons_zero, List.set_cons_succ, List.map_cons, List.map_nil, List.length_cons, List.length_nil, List.replicate_succ, List.replicate_zero, List.cons_append, List.nil_append, Option.map_some, Option.map_none, if_true, if_false, Bool.false_eq_true, Bool.not_true, Bool.not_false, decide_true, decide_false, reduceIte, ne_eq, not_true_eq_false, not_false_eq_true, List.getD_cons_zero, List.getD_cons_succ, Nat.reduceAdd, Nat.reduceSub, Nat.reduceLeDiff, Nat.reduceEqDiff, atI_0, atI_1, atI_2, lam_ap, append_ap, make_ap, setF_ap, own_ap, meth_ap, methD_ap, norm_val, norm_own, norm_ali, onMethD_ap, onMeth_val, onMeth_ali, lz_ap, raise_ap, try_ap, thunk_raw, thunk_exc, byes_ap, Mi.insAt, lendTo, hand, eChain, Mi.isL, onL, okFl], rfl, ⟨_, rfl, a7, b7⟩, v7⟩) (by rw [rl]; omega) (fun o o' => rfl)
  obtain ⟨ns, rfl, bn⟩ := ints_of g6
  rw [rl, List.length_map] at l6
  rw [rl] at v6
  have ll : ns.length ≤ 6 := by omega
  refine ⟨o6, ?_, v6.up (by omega)⟩
  have inj : ∀ x ∈ ns ++ [], ∀ y ∈ ns ++ [], (Sum.inr (tx x) : Key) = Sum.inr (tx y) → x = y := fun x hx y hy e => by
    rw [List.append_nil] at hx hy
    have p := bn x hx
    have q := bn y hy
    exact tx_inj p.1 p.2 q.1 q.2 (Sum.inr.inj e)
  have d1 := dup_map (f := fun n => (Sum.inl n : Key)) ns [] (fun x _ y _ e => Sum.inl.inj e)
  have d2 := dup_map (f := fun n => (Sum.inr (tx n) : Key)) ns [] inj
  rw [List.map_nil, dup_L] at d1 d2
  have f1 := ft_ok (d := .lst (ns.map .int)) (xs := ns.map .int) (ks := ns.map fun n => (Sum.inl n : Key)) rfl (keys_map _ _ (fun _ => rfl) ns) (by rw [List.length_map]; omega)
  have f2 := ft_ok (d := .tup (ns.map fun n => .str (tx n))) (xs := ns.map fun n => .str (tx n)) (ks := ns.map fun n => (Sum.inr (tx n) : Key)) rfl (keys_map _ _ (fun _ => rfl) ns) (by rw [List.length_map]; omega)
  rw [d1] at f1
  rw [d2] at f2
  obtain ⟨ag, hag⟩ : ∃ ag, ag = dupL ns := ⟨_, rfl⟩
  rw [← hag] at f1 f2
  have c1 := ecompF (own := [4, 5]) (mi := iTk enumD (lCons (eVar 1) (lNil))) (g := gTupM 2 (gsCons (gNam 4) (gsCons (gNam 5) (gsEnd)))) (test := (bVal (eOp fIn (eVar 5) (eSl (eVar 1) (pNone) (pSome (eVar 4)))))) (me := eVar 5) ns.zipIdx (fun p => D.tup [.int (p.2 : Nat), .int p.1]) (fun p => D.int p.1) (fun p => (ns.take p.2).contains p.1) (τ := [.lent 0 o6, .own (.lst (ns.map .int)), .non, .non, .non, .non, .non]) (τ1 := [.lent 0 o6, .val (.lst (ns.map .int)), .non, .non, .non, .non, .non])
    (by
      have e : ((ns.map D.int).zipIdx.map fun p => D.tup [.int (p.2 : Nat), p.1]) = ns.zipIdx.map fun p => D.tup [.int (p.2 : Nat), .int p.1] := by
        rw [List.zipIdx_map, List.map_map]
        rfl
      simp only [iTk, enumD, e, bnd_ap, of_ap, seq_ap, asg_ap, ret_ap, retN_ap, sif_ap, expr_ap, par_ap, par3_ap, asgT_ap, nil_ap, brk_ap, cnt_ap, give_val, give_own, give_ali, take_val, take_own, take_ali, ta_nil, ta_cons, pk_val, pk_own, pk_ali, pa_nil', pa_cons', var_ap, lit_ap, op_ap, un_ap, cb_ap, lc_ap, ln_ap, tup_ap, lst_ap, cv_ap, ck_ap, cl_ap, and_ap, or_ap, not_ap, eif_ap, bval_ap, bnot_ap, band_ap, bor_ap, gnam_ap, gtup_ap, gend_ap, gcons_ap, rng_ap, for_ap, loop_nil, setIx_ap, run_ap, M.ret, unpk, asB, back, retS, fit_of, sInt, sBl, fIx, fLen, fAbs, fInt, fList, Mi.isNon, fIsN, fNotN, fCmp, fLt, fLe, fGt, fGe, fAdd, fSub, fNeg, O.frz, Mi.pick, List.getElem?_cons_zero, List.getElem?_cons_succ, List.getElem?_nil, List.set_cons_zero, List.set_cons_succ, List.map_cons, List.map_nil, List.length_cons, List.length_nil, List.replicate_succ, List.replicate_zero, List.cons_append, List.nil_append, Option.map_some, Option.map_none, if_true, if_false, Bool.false_eq_true, Bool.not_true, Bool.not_false, decide_true, decide_false, reduceIte, ne_eq, not_true_eq_false, not_false_eq_true, List.getD_cons_zero, List.getD_cons_succ, Nat.reduceAdd, Nat.reduceSub, Nat.reduceLeDiff, Nat.reduceEqDiff, atI_0, atI_1, atI_2, lam_ap, append_ap, make_ap, setF_ap, own_ap, meth_ap, methD_ap, norm_val, norm_own, norm_ali, onMethD_ap, onMeth_val, onMeth_ali, lz_ap, raise_ap, try_ap, thunk_raw, thunk_exc, byes_ap, Mi.insAt, lendTo, hand, eChain, Mi.isL, onL, okFl]) rfl (fun p _ => by
      have u : unpk 2 (D.tup [.int (p.2 : Nat), .int p.1]) = some [.int (p.2 : Nat), .int p.1] := rfl
      refine ⟨[.lent 0 o6, .val (.lst (ns.map .int)), .non, .non, .val (.int (p.2 : Nat)), .val (.int p.1), .non], [.lent 0 o6, .val (.lst (ns.map .int)), .non, .non, .val (.int (p.2 : Nat)), .val (.int p.1), .non], ?_, ?_, fun _ => rfl, fun _ => ⟨_, rfl, rfl⟩⟩
      · simp only [wipeT, List.foldl_cons, List.foldl_nil, u, bnd_ap, of_ap, seq_ap, asg_ap, ret_ap, retN_ap, sif_ap, expr_ap, par_ap, par3_ap, asgT_ap, nil_ap, brk_ap, cnt_ap, give_val, give_own, give_ali, take_val, take_own, take_ali, ta_nil, ta_cons, pk_val, pk_own, pk_ali, pa_nil', pa_cons', var_ap, lit_ap, op_ap, un_ap, cb_ap, lc_ap, ln_ap, tup_ap, lst_ap, cv_ap, ck_ap, cl_ap, and_ap, or_ap, not_ap, eif_ap, bval_ap, bnot_ap, band_ap, bor_ap, gnam_ap, gtup_ap, gend_ap, gcons_ap, rng_ap, for_ap, loop_nil, setIx_ap, run_ap, M.ret, unpk, asB, back, retS, fit_of, sInt, sBl, fIx, fLen, fAbs, fInt, fList, Mi.isNon, fIsN, fNotN, fCmp, fLt, fLe, fGt, fGe, fAdd, fSub, fNeg, O.frz, Mi.pick, List.getElem?_cons_zero, List.getElem?_cons_succ, List.getElem?_nil, List.set_cons_zero, List.set_cons_succ, List.map_cons, List.map_nil, List.length_cons, List.length_nil, List.replicate_succ, List.replicate_zero, List.cons_append, List.nil_append, Option.map_some, Option.map_none, if_true, if_false, Bool.false_eq_true, Bool.not_true, Bool.not_false, decide_true, decide_false, reduceIte, ne_eq, not_true_eq_false, not_false_eq_true, List.getD_cons_zero, List.getD_cons_succ, Nat.reduceAdd, Nat.reduceSub, Nat.reduceLeDiff, Nat.reduceEqDiff, atI_0, atI_1, atI_2, lam_ap, append_ap, make_ap, setF_ap, own_ap, meth_ap, methD_ap, norm_val, norm_own, norm_ali, onMethD_ap, onMeth_val, onMeth_ali, lz_ap, raise_ap, try_ap, thunk_raw, thunk_exc, byes_ap, Mi.insAt, lendTo, hand, eChain, Mi.isL, onL, okFl]
      · refine bv (op_v (f := fIn) (var_v rfl) (esl_lo (i := 1) (j := 4) rfl rfl) pk_v pk_o ?_)
        show fIn (.int p.1) (.lst (cut (ns.map .int) none (some ((p.2 : Nat) : Int)))) = _
        rw [cut_take]
        exact in_ints _ _) (by rw [List.length_zipIdx]; omega) rfl
  have eag : ((ns.zipIdx.filter fun p => (ns.take p.2).contains p.1).map fun p => D.int p.1) = ag.map D.int := by
    rw [hag]
    unfold dupL
    rw [List.map_map]
    rfl
  rw [eag] at c1
  have agm : ∀ x ∈ ag, x ∈ ns := fun x hx => by
    rw [hag] at hx
    unfold dupL at hx
    obtain ⟨p, hp, rfl⟩ := List.mem_map.mp hx
    have := (List.mem_filter.mp hp).1
    exact (List.mem_zipIdx this).2.2 ▸ List.getElem_mem _
  have n0 := fNe_nil (n := 0) (xs := ag.map D.int) pl_ints (by decide)
  rw [List.isEmpty_map] at n0
  have lz : ∀ τ : List Mi.S, eLst lNil τ = .ok (.own (.lst []), τ) := fun τ => by simp only [bnd_ap, of_ap, seq_ap, asg_ap, ret_ap, retN_ap, sif_ap, expr_ap, par_ap, par3_ap, asgT_ap, nil_ap, brk_ap, cnt_ap, give_val, give_own, give_ali, take_val, take_own, take_ali, ta_nil, ta_cons, pk_val, pk_own, pk_ali, pa_nil', pa_cons', var_ap, lit_ap, op_ap, un_ap, cb_ap, lc_ap, ln_ap, tup_ap, lst_ap, cv_ap, ck_ap, cl_ap, and_ap, or_ap, not_ap, eif_ap, bval_ap, bnot_ap, band_ap, bor_ap, gnam_ap, gtup_ap, gend_ap, gcons_ap, rng_ap, for_ap, loop_nil, setIx_ap, run_ap, M.ret, unpk, asB, back, retS, fit_of, sInt, sBl, fIx, fLen, fAbs, fInt, fList, Mi.isNon, fIsN, fNotN, fCmp, fLt, fLe, fGt, fGe, fAdd, fSub, fNeg, O.frz, Mi.pick, List.getElem?_cons_zero, List.getElem?_cons_succ, List.getElem?_nil, List.set_cons_zero, List.set_cons_succ, List.map_cons, List.map_nil, List.length_cons, List.length_nil, List.replicate_succ, List.replicate_zero, List.cons_append, List.nil_append, Option.map_some, Option.map_none, if_true, if_false, Bool.false_eq_true, Bool.not_true, Bool.not_false, decide_true, decide_false, reduceIte, ne_eq, not_true_eq_false, not_false_eq_true, List.getD_cons_zero, List.getD_cons_succ, Nat.reduceAdd, Nat.reduceSub, Nat.reduceLeDiff, Nat.reduceEqDiff, atI_0, atI_1, atI_2, lam_ap, append_ap, make_ap, setF_ap, own_ap, meth_ap, methD_ap, norm_val, norm_own, norm_ali, onMethD_ap, onMeth_val, onMeth_ali, lz_ap, raise_ap, try_ap, thunk_raw, thunk_exc, byes_ap, Mi.insAt, lendTo, hand, eChain, Mi.isL, onL, okFl]
  have pick : ∀ (tE : M Mi.S) (y : D) (x : Int) (τ : List Mi.S), τ[3]? = some (.own (.lst (ag.map .int))) → (∀ a r, ag = a :: r → tE τ = .ok (.val y, τ)) → eIf (bVal (eOp fNe (eVar 3) (eLst (lNil)))) tE (eLit .non) τ = .ok (.val (if ag.isEmpty = true then .non else y), τ) := fun tE y x τ h3 ht => by
    have ne : bVal (eOp fNe (eVar 3) (eLst (lNil))) τ = .ok (!ag.isEmpty, τ) := bv (op_v (f := fNe) (var_o h3) (lz τ) (pk_a h3) pk_o n0)
    cases ag with
    | nil =>
      simp only [eif_ap, bnd_ap, ne, List.isEmpty_nil, Bool.not_true, Bool.false_eq_true, if_false, if_true]
      rfl
    | cons a r =>
      simp only [eif_ap, bnd_ap, ne, List.isEmpty_cons, Bool.not_false, Bool.false_eq_true, if_false, if_true, ht a r rfl]
  rw [f__law_twice_right]
  refine run_1 (τ := [.lent 0 o6, .val (.lst (ns.map .int)), .non, .own (.lst (ag.map .int)), .non, .non, .own (.lst (ns.map fun n => .str (tx n)))]) rfl ?_ rfl rfl
  show m__law_twice_right [.lent 0 o, .non, .non, .non, .non, .non, .non] = _
  unfold m__law_twice_right
  have rt : restT [2] [.lent 0 o5, .non, .non, .non, .non, .non, .non] (.lent 0 o6 :: [.non, .non, .non, .non, .non, .non]) = [.lent 0 o6, .non, .non, .non, .non, .non, .non] := rfl
  rw [rt] at e6
  refine at_seq (asg_o e6) ?_
  refine at_seq (asg_o c1) ?_
  -- the first one
  have i0 : ∀ a r, ag = a :: r → fIx (.lst (ag.map .int)) (.int 0) = some (.val (.int a)) := fun a r e => by
    rw [e, List.map_cons]
    show (atI _ _).map _ = _
    rw [atI_0]; rfl
  obtain ⟨hdv, hh⟩ : ∃ x : Int, x = ag.headD 0 := ⟨_, rfl⟩
  have h1 : dupD ((ag.head?).map fun n => (Sum.inl n : Key)) = if ag.isEmpty = true then .non else .int hdv := by
    rw [hh]
    cases ag <;> rfl
  have h2 : dupD ((ag.head?).map fun n => (Sum.inr (tx n) : Key)) = if ag.isEmpty = true then .non else .str (tx hdv) := by
    rw [hh]
    cases ag <;> rfl
  rw [h1] at f1
  rw [h2] at f2
  have p1 := pick (eOp fIx (eVar 3) (eLit (.int 0))) (.int hdv) 0 [.lent 0 o6, .val (.lst (ns.map .int)), .non, .own (.lst (ag.map .int)), .non, .non, .non] rfl (fun a r e => by
    have e2 : hdv = a := by rw [hh, e]; rfl
    rw [e2]
    exact op_v (f := fIx) (s1 := .ali 3) (var_o rfl) lit_v (pk_a rfl) pk_v (i0 a r e))
  have pl1 : PlN 0 (if ag.isEmpty = true then .non else .int hdv) := by
    split
    · exact .non
    · exact .int _
  refine at_seq (τ1 := [.lent 0 o6, .val (.lst (ns.map .int)), .non, .own (.lst (ag.map .int)), .non, .non, .non]) (if_skip (bv (ne_ff (k := 0) (τ1 := [.lent 0 o6, .val (.lst (ns.map .int)), .non, .own (.lst (ag.map .int)), .non, .non, .non]) ?_ p1 pk_v pk_v pl1 (by decide)))) ?_
  · show eCallK [0] 1 f_first_twice (lCons (eVar 1) lNil) [.lent 0 o6, .val (.lst (ns.map .int)), .non, .own (.lst (ag.map .int)), .non, .non, .non] = _
    simp only [ck_ap, lc_ap, ln_ap, bnd_ap, var_ap, List.getElem?_cons_zero, List.getElem?_cons_succ, M.ret, ta_cons, ta_nil, take_val, Mi.pick, List.map_cons, List.map_nil, List.getD_cons_zero, List.length_cons, List.length_nil, Nat.reduceAdd, if_true, f1]
  -- texts
  have c6 := ecompM (own := [5]) (mi := iSeq (eVar 1)) (g := gNam 5) (me := eOp fAdd (eLit (.str "d")) (eCB fStr (lCons (eVar 5) (lNil)))) ns D.int (fun n => D.str (tx n)) (τ := [.lent 0 o6, .val (.lst (ns.map .int)), .non, .own (.lst (ag.map .int)), .non, .non, .non]) (τ1 := [.lent 0 o6, .val (.lst (ns.map .int)), .non, .own (.lst (ag.map .int)), .non, .non, .non])
    (iseq_val (.lst (ns.map .int)) rfl rfl) rfl (fun n hn => by
      have p := bn n hn
      have hz : n.natAbs.log2 < 1920 := Nat.lt_of_lt_of_le (log_lt (n := 10) (by decide) (by omega)) (by decide)
      have hs : fStr [.int n] = some (.val (.str (toString n))) := by simp only [fStr, hz, if_true]
      refine ⟨[.lent 0 o6, .val (.lst (ns.map .int)), .non, .own (.lst (ag.map .int)), .non, .val (.int n), .non], [.lent 0 o6, .val (.lst (ns.map .int)), .non, .own (.lst (ag.map .int)), .non, .val (.int n), .non], rfl, ?_, rfl⟩
      rw [bnd_ap, op_v (f := fAdd) lit_v (cb_1 (τ1 := [.lent 0 o6, .val (.lst (ns.map .int)), .non, .own (.lst (ag.map .int)), .non, .val (.int n), .non]) (var_v rfl) pk_v hs) pk_v pk_v (tx_add p.1 p.2)]
      rfl) (by omega) rfl
  refine at_seq (asg_o c6) ?_
  -- the last row
  have pl2 : PlN 0 (if ag.isEmpty = true then .non else .str (tx hdv)) := by
    cases ag with
    | nil => exact .non
    | cons a r =>
      have e2 : hdv = a := hh
      have := bn a (agm a List.mem_cons_self)
      rw [e2]
      exact .str _ (tx_shaped this.1 this.2)
  have p2 := pick (eOp fIx (eVar 6) (eIndex (eVar 1) (lCons (eOp fIx (eVar 3) (eLit (.int 0))) (lNil)))) (.str (tx hdv)) 0 [.lent 0 o6, .val (.lst (ns.map .int)), .non, .own (.lst (ag.map .int)), .non, .non, .own (.lst (ns.map fun n => .str (tx n)))] rfl (fun a r e => by
    have e2 : hdv = a := by rw [hh, e]; rfl
    rw [e2]
    have am : a ∈ ns := agm a (by rw [e]; exact List.mem_cons_self)
    have x1 : eOp fIx (eVar 3) (eLit (.int 0)) [.lent 0 o6, .val (.lst (ns.map .int)), .non, .own (.lst (ag.map .int)), .non, .non, .own (.lst (ns.map fun n => .str (tx n)))] = .ok (.val (.int a), [.lent 0 o6, .val (.lst (ns.map .int)), .non, .own (.lst (ag.map .int)), .non, .non, .own (.lst (ns.map fun n => .str (tx n)))]) := op_v (f := fIx) (s1 := .ali 3) (var_o rfl) lit_v (pk_a rfl) pk_v (i0 a r e)
    obtain ⟨j, hj⟩ : ∃ j, (ns.map PyData.int).findIdx? (fun z => PyData.eqv z (.int a)) = some j := by
      cases q : (ns.map PyData.int).findIdx? (fun z => PyData.eqv z (.int a)) with
      | some j => exact ⟨j, rfl⟩
      | none =>
        rw [List.findIdx?_eq_none_iff] at q
        have := q (.int a) (List.mem_map.mpr ⟨a, am, rfl⟩)
        rw [eqv_int, beq_self_eq_true] at this
        cases this
    obtain ⟨z, z1, z2, _⟩ := find_at hj
    rw [List.getElem?_map] at z1
    obtain ⟨m, m1, rfl⟩ := Option.map_eq_some_iff.mp z1
    rw [eqv_int, beq_iff_eq] at z2
    subst z2
    have ix : fIndex (.lst (ns.map .int)) [.int m] = some (.val (.int (j : Nat))) := by
      have s : SeqAt.shaped (.int m) = true := rfl
      simp only [fIndex, pys_intsD, D.py, shaped_ints, s, and_self, if_true, hj, Option.map_some]
    have xi : eIndex (eVar 1) (lCons (eOp fIx (eVar 3) (eLit (.int 0))) (lNil)) [.lent 0 o6, .val (.lst (ns.map .int)), .non, .own (.lst (ag.map .int)), .non, .non, .own (.lst (ns.map fun n => .str (tx n)))] = .ok (.val (.int (j : Nat)), [.lent 0 o6, .val (.lst (ns.map .int)), .non, .own (.lst (ag.map .int)), .non, .non, .own (.lst (ns.map fun n => .str (tx n)))]) := by
      have v1 : eVar 1 [.lent 0 o6, .val (.lst (ns.map .int)), .non, .own (.lst (ag.map .int)), .non, .non, .own (.lst (ns.map fun n => .str (tx n)))] = .ok (.val (.lst (ns.map .int)), [.lent 0 o6, .val (.lst (ns.map .int)), .non, .own (.lst (ag.map .int)), .non, .non, .own (.lst (ns.map fun n => .str (tx n)))]) := rfl
      simp only [eIndex, bnd_ap, v1, pk_val, isLstD, of_ap, lm_1 x1, pa_cons', pa_nil', M.ret, ix]
    obtain ⟨hlt, _⟩ := List.getElem?_eq_some_iff.mp m1
    have it : fIx (.lst (ns.map fun n => .str (tx n))) (.int (j : Nat)) = some (.val (.str (tx m))) := by
      show (atI _ _).map _ = _
      have : atI (ns.map fun n => D.str (tx n)) ((j : Nat) : Int) = some (.str (tx m)) := by
        simp only [atI, ixN]
        rw [if_pos (by omega), if_pos (by rw [List.length_map]; omega)]
        simp only [Int.toNat_natCast, Option.bind_some, List.getElem?_map, m1, Option.map_some]
      rw [this]; rfl
    exact op_v (f := fIx) (s1 := .ali 6) (var_o rfl) xi (pk_a rfl) pk_v it)
  refine ret_v (eq_tt (k := 0) (τ1 := [.lent 0 o6, .val (.lst (ns.map .int)), .non, .own (.lst (ag.map .int)), .non, .non, .own (.lst (ns.map fun n => .str (tx n)))]) ?_ p2 pk_v pk_v pl2 (by decide))
  have ft2 : fTuple [.lst (ns.map fun n => .str (tx n))] = some (.val (.tup (ns.map fun n => .str (tx n)))) := rfl
  exact call_1 (s1 := .val (.tup (ns.map fun n => .str (tx n)))) (τ1 := [.lent 0 o6, .val (.lst (ns.map .int)), .non, .own (.lst (ag.map .int)), .non, .non, .own (.lst (ns.map fun n => .str (tx n)))]) (cb_1 (s1 := .ali 6) (var_o rfl) (pk_a rfl) ft2) tk_v f2
end K01

namespace K01
open PySem PySem.Spec PyProof.Rows L2 Mi
/-! #### names -/
def mk (l : List Nat) : Str := ⟨l.toArray⟩
theorem mk_cps (l : List Nat) : (mk l).cps.toList = l := rfl
theorem mk_len (l : List Nat) : (mk l).length = l.length := by
  show l.toArray.size = _
  rw [List.size_toArray]
theorem mk_app (l m : List Nat) : mk l ++ mk m = mk (l ++ m) := by
  apply Str.ext'
  show l.toArray ++ m.toArray = (l ++ m).toArray
  simp
theorem mk_of (x : Str) : mk x.cps.toList = x := by
  apply Str.ext'
  show x.cps.toList.toArray = x.cps
  simp
def L26 : List Nat := (List.range 26).map (97 + ·)
def S36 : List Nat := L26 ++ (List.range 10).map (48 + ·)
theorem let_mk : ("abcdefghijklmnopqrstuvwxyz" : Str) = mk L26 := by decide +kernel
theorem sig_mk : ("abcdefghijklmnopqrstuvwxyz0123456789" : Str) = mk S36 := by decide +kernel
theorem ld_mk : ("abcdefghijklmnopqrstuvwxyz" : Str) ++ ("0123456789" : Str) = mk S36 := by decide +kernel
def nmB (l : List Nat) : Bool := (decide (0 < l.length) && decide (l.length ≤ 12)) && (L26.contains (l.headD 0) && l.all fun c => S36.contains c)
theorem inC_ok (c : Nat) (m : List Nat) : fInC (.str ⟨#[c]⟩) (.str (mk m)) = some (.val (.bl (m.contains c))) := by
  show some (Mi.S.val (.bl (decide (c ∈ (mk m).cps.toList)))) = _
  rw [mk_cps]
  congr 3
  rw [Bool.eq_iff_iff, decide_eq_true_eq, List.contains_iff_mem]
theorem signs_mk (l : List Nat) : signsD (mk l) = l.map fun c => D.str ⟨#[c]⟩ := rfl
theorem len_mk {l : List Nat} (h : l.length ≤ 1000) : fLen [.str (mk l)] = some (.val (.int (l.length : Int))) := by
  show (if (mk l).length ≤ sizeLine then sInt (mk l).length else none) = _
  rw [mk_len, if_pos (by rw [sizeLine_eq]; omega)]
  rfl
theorem ix_mk {c : Nat} {r : List Nat} (h : (c :: r).length ≤ 1000) : fIx (.str (mk (c :: r))) (.int 0) = some (.val (.str ⟨#[c]⟩)) := by
  show (if (mk (c :: r)).length ≤ sizeLine then (atI (mk (c :: r)).cps.toList 0).map (fun c => Mi.S.val (.str ⟨#[c]⟩)) else none) = _
  rw [mk_len, if_pos (by rw [sizeLine_eq]; omega), mk_cps, atI_0]
  rfl
theorem add_mk {l m : List Nat} (h : l.length + m.length ≤ 1000) : fAdd (.str (mk l)) (.str (mk m)) = some (.val (.str (mk (l ++ m)))) := by
  show (if (mk l).length + (mk m).length ≤ sizeLine then some (Mi.S.val (.str (mk l ++ mk m))) else none) = _
  rw [mk_len, mk_len, if_pos (by rw [sizeLine_eq]; omega), mk_app]
theorem iany_str {ma : M Mi.S} {τ : List Mi.S} {x : Str} (h : ma τ = .ok (.val (.str x), τ)) : iAny ma τ = .ok ((signsD x, noPin), τ) := by
  simp only [iAny, isTxt, h, peekS, if_true, iTxt, bnd_ap, pk_val, of_ap, strD, M.ret]
theorem name_ok {l : List Nat} (hl : l.length ≤ 1000) : f_is_name [.val (.str (mk l))] = .ok (.val (.bl (nmB l)), [.non]) := by
  have i1 : fIsi isT [.str (mk l), .ty "str"] = some (.val (.bl true)) := rfl
  have ln := len_mk hl
  rw [f_is_name]
  by_cases h0 : 0 < l.length
  · by_cases h1 : l.length ≤ 12
    · obtain ⟨c, r, rfl⟩ := List.exists_cons_of_ne_nil (List.length_pos_iff.mp h0)
      have ix := ix_mk hl
      have ab : fAdd (.str "abcdefghijklmnopqrstuvwxyz") (.str "0123456789") = some (.val (.str (mk S36))) := by
        show (if ("abcdefghijklmnopqrstuvwxyz" : Str).length + ("0123456789" : Str).length ≤ sizeLine then some (Mi.S.val (.str (("abcdefghijklmnopqrstuvwxyz" : Str) ++ ("0123456789" : Str)))) else none) = _
        rw [ld_mk, if_pos (by
          have : ("abcdefghijklmnopqrstuvwxyz" : Str).length + ("0123456789" : Str).length = 36 := by decide +kernel
          rw [this, sizeLine_eq]; omega)]
      have c1 := ecompM (own := [1]) (mi := iAny (eVar 0)) (g := gNam 1) (me := (eOp fInC (eVar 1) (eOp fAdd (eLit (.str "abcdefghijklmnopqrstuvwxyz")) (eLit (.str "0123456789"))))) (c :: r) (fun c => D.str ⟨#[c]⟩) (fun c => .bl (S36.contains c)) (τ := [.val (.str (mk (c :: r))), .non]) (τ1 := [.val (.str (mk (c :: r))), .non])
        (by rw [iany_str (x := mk (c :: r)) (var_v rfl), signs_mk]) rfl (fun x _ => by
          refine ⟨[.val (.str (mk (c :: r))), .val (.str ⟨#[x]⟩)], [.val (.str (mk (c :: r))), .val (.str ⟨#[x]⟩)], rfl, ?_, rfl⟩
          rw [bnd_ap, op_v (f := fInC) (var_v rfl) (op_v (f := fAdd) lit_v lit_v pk_v pk_v ab) pk_v pk_v (inC_ok _ _)]
          rfl) hl rfl
      have nb : nmB (c :: r) = (L26.contains c && (c :: r).all fun c => S36.contains c) := by
        unfold nmB
        rw [decide_eq_true h0, decide_eq_true h1]
        rfl
      have q := inC_ok c L26
      rw [← let_mk] at q
      rw [nb]
      refine run_1 (τ := [.val (.str (mk (c :: r))), .non]) rfl ?_ rfl rfl
      show m_is_name [.val (.str (mk (c :: r))), .non] = _
      unfold m_is_name
      refine at_seq (τ1 := [.val (.str (mk (c :: r))), .non]) ?_ ?_
      · have g1 : (0 : Int) < ((c :: r).length : Int) := by omega
        have g2 : ((c :: r).length : Int) ≤ 12 := by omega
        simp only [i1, ln, eChain, fLt, fLe, fCmp, sBl, decide_eq_true g1, decide_eq_true g2, sif_ap, bor_ap, bnot_ap, bval_ap, bnd_ap, cb_ap, lc_ap, ln_ap, var_ap, lit_ap, M.ret, pa_cons', pa_nil', pk_val, of_ap, asB, List.getElem?_cons_zero, Bool.not_true, Bool.false_eq_true, if_false, if_true, nil_ap]
      · exact ret_v (eand_v (op_v (f := fInC) (op_v (f := fIx) (var_v rfl) lit_v pk_v pk_v ix) lit_v pk_v pk_v q) (cb_1 c1 pk_o (all_mapI _ _)))
    · have nb : nmB l = false := by
        unfold nmB
        rw [decide_eq_false h1]
        simp
      rw [nb]
      have g1 : (0 : Int) < (l.length : Int) := by omega
      have g2 : ¬ ((l.length : Int) ≤ 12) := by omega
      have hz : l.length ≤ sizeLine := by rw [sizeLine_eq]; omega
      rw [run_ap]
      simp only [m_is_name, i1, mk_len, hz, g1, g2, bnd_ap, of_ap, seq_ap, asg_ap, ret_ap, retN_ap, sif_ap, expr_ap, par_ap, par3_ap, asgT_ap, nil_ap, brk_ap, cnt_ap, give_val, give_own, give_ali, take_val, take_own, take_ali, ta_nil, ta_cons, pk_val, pk_own, pk_ali, pa_nil', pa_cons', var_ap, lit_ap, op_ap, un_ap, cb_ap, lc_ap, ln_ap, tup_ap, lst_ap, cv_ap, ck_ap, cl_ap, and_ap, or_ap, not_ap, eif_ap, bval_ap, bnot_ap, band_ap, bor_ap, gnam_ap, gtup_ap, gend_ap, gcons_ap, rng_ap, for_ap, loop_nil, setIx_ap, run_ap, M.ret, unpk, asB, back, retS, fit_of, sInt, sBl, fIx, fLen, fAbs, fInt, fList, Mi.isNon, fIsN, fNotN, fCmp, fLt, fLe, fGt, fGe, fAdd, fSub, fNeg, O.frz, Mi.pick, List.getElem?_cons_zero, List.getElem?_cons_succ, List.getElem?_nil, List.set_cons_zero, List.set_cons_succ, List.map_cons, List.map_nil, List.length_cons, List.length_nil, List.replicate_succ, List.replicate_zero, List.cons_append, List.nil_append, Option.map_some, Option.map_none, if_true, if_false, Bool.false_eq_true, Bool.not_true, Bool.not_false, decide_true, decide_false, reduceIte, ne_eq, not_true_eq_false, not_false_eq_true, List.getD_cons_zero, List.getD_cons_succ, Nat.reduceAdd, Nat.reduceSub, Nat.reduceLeDiff, Nat.reduceEqDiff, atI_0, atI_1, atI_2, lam_ap, append_ap, make_ap, setF_ap, own_ap, meth_ap, methD_ap, norm_val, norm_own, norm_ali, onMethD_ap, onMeth_val, onMeth_ali, lz_ap, raise_ap, try_ap, thunk_raw, thunk_exc, byes_ap, Mi.insAt, lendTo, hand, eChain, Mi.isL, onL, okFl]
  · have nb : nmB l = false := by
      unfold nmB
      rw [decide_eq_false h0]
      rfl
    rw [nb]
    have g1 : ¬ ((0 : Int) < (l.length : Int)) := by omega
    have hz : l.length ≤ sizeLine := by rw [sizeLine_eq]; omega
    rw [run_ap]
    simp only [m_is_name, i1, mk_len, hz, g1, bnd_ap, of_ap, seq_ap, asg_ap, ret_ap, retN_ap, sif_ap, expr_ap, par_ap, par3_ap, asgT_ap, nil_ap, brk_ap, cnt_ap, give_val, give_own, give_ali, take_val, take_own, take_ali, ta_nil, ta_cons, pk_val, pk_own, pk_ali, pa_nil', pa_cons', var_ap, lit_ap, op_ap, un_ap, cb_ap, lc_ap, ln_ap, tup_ap, lst_ap, cv_ap, ck_ap, cl_ap, and_ap, or_ap, not_ap, eif_ap, bval_ap, bnot_ap, band_ap, bor_ap, gnam_ap, gtup_ap, gend_ap, gcons_ap, rng_ap, for_ap, loop_nil, setIx_ap, run_ap, M.ret, unpk, asB, back, retS, fit_of, sInt, sBl, fIx, fLen, fAbs, fInt, fList, Mi.isNon, fIsN, fNotN, fCmp, fLt, fLe, fGt, fGe, fAdd, fSub, fNeg, O.frz, Mi.pick, List.getElem?_cons_zero, List.getElem?_cons_succ, List.getElem?_nil, List.set_cons_zero, List.set_cons_succ, List.map_cons, List.map_nil, List.length_cons, List.length_nil, List.replicate_succ, List.replicate_zero, List.cons_append, List.nil_append, Option.map_some, Option.map_none, if_true, if_false, Bool.false_eq_true, Bool.not_true, Bool.not_false, decide_true, decide_false, reduceIte, ne_eq, not_true_eq_false, not_false_eq_true, List.getD_cons_zero, List.getD_cons_succ, Nat.reduceAdd, Nat.reduceSub, Nat.reduceLeDiff, Nat.reduceEqDiff, atI_0, atI_1, atI_2, lam_ap, append_ap, make_ap, setF_ap, own_ap, meth_ap, methD_ap, norm_val, norm_own, norm_ali, onMethD_ap, onMeth_val, onMeth_ali, lz_ap, raise_ap, try_ap, thunk_raw, thunk_exc, byes_ap, Mi.insAt, lendTo, hand, eChain, Mi.isL, onL, okFl]
theorem name_no {d : D} (h : fIsi isT [d, .ty "str"] = some (.val (.bl false))) : f_is_name [.val d] = .ok (.val (.bl false), [.non]) := by
  simp only [f_is_name, m_is_name, h, bnd_ap, of_ap, seq_ap, asg_ap, ret_ap, retN_ap, sif_ap, expr_ap, par_ap, par3_ap, asgT_ap, nil_ap, brk_ap, cnt_ap, give_val, give_own, give_ali, take_val, take_own, take_ali, ta_nil, ta_cons, pk_val, pk_own, pk_ali, pa_nil', pa_cons', var_ap, lit_ap, op_ap, un_ap, cb_ap, lc_ap, ln_ap, tup_ap, lst_ap, cv_ap, ck_ap, cl_ap, and_ap, or_ap, not_ap, eif_ap, bval_ap, bnot_ap, band_ap, bor_ap, gnam_ap, gtup_ap, gend_ap, gcons_ap, rng_ap, for_ap, loop_nil, setIx_ap, run_ap, M.ret, unpk, asB, back, retS, fit_of, sInt, sBl, fIx, fLen, fAbs, fInt, fList, Mi.isNon, fIsN, fNotN, fCmp, fLt, fLe, fGt, fGe, fAdd, fSub, fNeg, O.frz, Mi.pick, List.getElem?_cons_zero, List.getElem?_cons_succ, List.getElem?_nil, List.set_cons_zero, List.set_cons_succ, List.map_cons, List.map_nil, List.length_cons, List.length_nil, List.replicate_succ, List.replicate_zero, List.cons_append, List.nil_append, Option.map_some, Option.map_none, if_true, if_false, Bool.false_eq_true, Bool.not_true, Bool.not_false, decide_true, decide_false, reduceIte, ne_eq, not_true_eq_false, not_false_eq_true, List.getD_cons_zero, List.getD_cons_succ, Nat.reduceAdd, Nat.reduceSub, Nat.reduceLeDiff, Nat.reduceEqDiff, atI_0, atI_1, atI_2, lam_ap, append_ap, make_ap, setF_ap, own_ap, meth_ap, methD_ap, norm_val, norm_own, norm_ali, onMethD_ap, onMeth_val, onMeth_ali, lz_ap, raise_ap, try_ap, thunk_raw, thunk_exc, byes_ap, Mi.insAt, lendTo, hand, eChain, Mi.isL, onL, okFl]
theorem num_str (i : Int) (hi : i.natAbs < 2 ^ 100) : ∃ c r, ((toString i : String) : Str) = mk (c :: r) ∧ (c = 45 ∨ (48 ≤ c ∧ c ≤ 57)) ∧ (c :: r).length ≤ 1000 := by
  have nn : ∀ n : Nat, n < 2 ^ 100 → ∃ c r, TL.numL n = c :: r ∧ (48 ≤ c ∧ c ≤ 57) ∧ (c :: r).length ≤ 40 := fun n hn => by
    have l := TL.numL_len (n := n) (k := 40) (by decide) (Nat.lt_of_lt_of_le hn (by decide +kernel))
    obtain ⟨c, r, e⟩ := List.exists_cons_of_ne_nil (TL.numL_ne n)
    have d := TL.numL_digits n c (by rw [e]; exact List.mem_cons_self)
    rw [e] at l
    exact ⟨c, r, e, d, l⟩
  cases i with
  | ofNat n =>
    obtain ⟨c, r, e, d, l⟩ := nn n hi
    have t := TL.tl_num n
    rw [e] at t
    refine ⟨c, r, ?_, .inr d, by omega⟩
    rw [← t]
    exact (mk_of _).symm
  | negSucc n =>
    obtain ⟨c, r, e, d, l⟩ := nn (n + 1) hi
    have t := TL.tl_num (n + 1)
    rw [TL.tl_ofString, e] at t
    refine ⟨45, c :: r, ?_, .inl rfl, by simp only [List.length_cons] at l ⊢; omega⟩
    rw [← mk_of (Str.ofString (toString (Int.negSucc n)))]
    congr 1
    show TL.tl (Str.ofString (toString (Int.negSucc n))) = _
    rw [TL.tl_ofString]
    have e2 : toString (Int.negSucc n) = "-" ++ toString (((n + 1 : Nat)) : Int) := rfl
    rw [e2, String.toList_append, List.map_append, t]
    rfl
theorem odd_name {d : D} (h : OddV d) : f_is_name [.val d] = .ok (.val (.bl false), [.non]) := by
  obtain ⟨i, hi, m⟩ := h
  simp only [List.mem_cons, List.not_mem_nil, or_false] at m
  rcases m with rfl | rfl | rfl | rfl | rfl | rfl | rfl | rfl | rfl | rfl | rfl | rfl
  · exact name_no rfl
  · exact name_no rfl
  · exact name_no rfl
  · obtain ⟨c, r, e, hc, hl⟩ := num_str i hi
    rw [e, name_ok hl]
    have : nmB (c :: r) = false := by
      unfold nmB
      have : L26.contains ((c :: r).headD 0) = false := by
        rw [List.headD_cons, Bool.eq_false_iff]
        intro q
        rw [List.contains_iff_mem] at q
        unfold L26 at q
        obtain ⟨j, _, e⟩ := List.mem_map.mp q
        omega
      rw [this]
      simp
    rw [this]
  · have e : ("" : Str) = mk [] := by decide +kernel
    rw [e, name_ok (by simp)]
    rfl
  · exact name_no rfl
  · exact name_no rfl
  · exact name_no rfl
  · exact name_no rfl
  · exact name_no rfl
  · exact name_no rfl
  · exact name_no rfl
end K01

namespace K01
open PySem PySem.Spec PyProof.Rows L2 Mi
/-! #### names right -/
def Nm (l : List Nat) : Prop := 0 < l.length ∧ L26.contains (l.headD 0) = true ∧ (l.all fun c => S36.contains c) = true
theorem nm_t {l : List Nat} (h : Nm l) (hl : l.length ≤ 12) : nmB l = true := by
  obtain ⟨h1, h2, h3⟩ := h
  unfold nmB
  rw [decide_eq_true h1, decide_eq_true hl, h2, h3]
  rfl
theorem list_let : fListS [.str "abcdefghijklmnopqrstuvwxyz"] = some (.own (.lst (L26.map fun c => D.str ⟨#[c]⟩))) := by
  have : ("abcdefghijklmnopqrstuvwxyz" : Str).length = 26 := by decide +kernel
  show (if ("abcdefghijklmnopqrstuvwxyz" : Str).length ≤ sizeLine then some (Mi.S.own (.lst (signsD "abcdefghijklmnopqrstuvwxyz"))) else none) = _
  rw [if_pos (by rw [this, sizeLine_eq]; omega), let_mk, signs_mk]
theorem list_sig : fListS [.str "abcdefghijklmnopqrstuvwxyz0123456789"] = some (.own (.lst (S36.map fun c => D.str ⟨#[c]⟩))) := by
  have : ("abcdefghijklmnopqrstuvwxyz0123456789" : Str).length = 36 := by decide +kernel
  show (if ("abcdefghijklmnopqrstuvwxyz0123456789" : Str).length ≤ sizeLine then some (Mi.S.own (.lst (signsD "abcdefghijklmnopqrstuvwxyz0123456789"))) else none) = _
  rw [if_pos (by rw [this, sizeLine_eq]; omega), sig_mk, signs_mk]
noncomputable def nmL : M Fl := (sAsg 3 (eOp fAdd (eVar 3) (eCallL f__law_pick (lCons (eVar 0) (lCons (eCB fListS (lCons (eVar 2) (lNil))) (lNil))))))
theorem nm_loop : ∀ (its : List D) (o : O) (k : Nat) (l : List Nat) (r : Mi.S), VS o k → k + its.length < 900000 → Nm l → l.length + its.length ≤ 12 → ∃ (o3 : O) (l' : List Nat) (r4 : Mi.S), loopM noPin (gNam 4) nmL its [.lent 0 o, .val (.str "abcdefghijklmnopqrstuvwxyz"), .val (.str "abcdefghijklmnopqrstuvwxyz0123456789"), .val (.str (mk l)), r, .non, .non] = .ok (.nx, [.lent 0 o3, .val (.str "abcdefghijklmnopqrstuvwxyz"), .val (.str "abcdefghijklmnopqrstuvwxyz0123456789"), .val (.str (mk l')), r4, .non, .non]) ∧ Nm l' ∧ l'.length ≤ 12 ∧ VS o3 (k + its.length)
  | [], o, k, l, r, h, _, n, hl => ⟨o, l, r, rfl, n, by simpa using hl, h⟩
  | d :: its, o, k, l, r, h, hk, n, hl => by
    rw [List.length_cons] at hk hl
    obtain ⟨x, o2, e, m, v⟩ := pick_v (xs := S36.map fun c => D.str ⟨#[c]⟩) h (by omega) (by decide) (by decide)
    obtain ⟨c, hc, rfl⟩ := List.mem_map.mp m
    have n2 : Nm (l ++ [c]) := by
      obtain ⟨h1, h2, h3⟩ := n
      refine ⟨by rw [List.length_append]; omega, ?_, ?_⟩
      · obtain ⟨a, t, rfl⟩ := List.exists_cons_of_ne_nil (List.length_pos_iff.mp h1)
        exact h2
      · rw [List.all_append, h3]
        simp only [List.all_cons, List.all_nil, Bool.and_true, Bool.true_and]
        exact List.contains_iff_mem.mpr hc
    obtain ⟨o3, l', r4, e2, n3, l3, v3⟩ := nm_loop its o2 (k + 1) (l ++ [c]) (.val d) v (by omega) n2 (by rw [List.length_append, List.length_cons, List.length_nil]; omega)
    refine ⟨o3, l', r4, ?_, n3, l3, by rw [List.length_cons]; exact v3.up (by omega)⟩
    have ad := add_mk (l := l) (m := [c]) (by simp only [List.length_cons, List.length_nil]; omega)
    have st : nmL [.lent 0 o, .val (.str "abcdefghijklmnopqrstuvwxyz"), .val (.str "abcdefghijklmnopqrstuvwxyz0123456789"), .val (.str (mk l)), .val d, .non, .non] = .ok (.nx, [.lent 0 o2, .val (.str "abcdefghijklmnopqrstuvwxyz"), .val (.str "abcdefghijklmnopqrstuvwxyz0123456789"), .val (.str (mk (l ++ [c]))), .val d, .non, .non]) := by
      have cl : eCallL f__law_pick (lCons (eVar 0) (lCons (eCB fListS (lCons (eVar 2) (lNil))) (lNil))) [.lent 0 o, .val (.str "abcdefghijklmnopqrstuvwxyz"), .val (.str "abcdefghijklmnopqrstuvwxyz0123456789"), .val (.str (mk l)), .val d, .non, .non] = .ok (.val (.str (mk [c])), [.lent 0 o2, .val (.str "abcdefghijklmnopqrstuvwxyz"), .val (.str "abcdefghijklmnopqrstuvwxyz0123456789"), .val (.str (mk l)), .val d, .non, .non]) := by
        simp only [list_sig, e, lendTo, hand, bnd_ap, of_ap, seq_ap, asg_ap, ret_ap, retN_ap, sif_ap, expr_ap, par_ap, par3_ap, asgT_ap, nil_ap, brk_ap, cnt_ap, give_val, give_own, give_ali, take_val, take_own, take_ali, ta_nil, ta_cons, pk_val, pk_own, pk_ali, pa_nil', pa_cons', var_ap, lit_ap, op_ap, un_ap, cb_ap, lc_ap, ln_ap, tup_ap, lst_ap, cv_ap, ck_ap, cl_ap, and_ap, or_ap, not_ap, eif_ap, bval_ap, bnot_ap, band_ap, bor_ap, gnam_ap, gtup_ap, gend_ap, gcons_ap, rng_ap, for_ap, loop_nil, setIx_ap, run_ap, M.ret, unpk, asB, back, retS, fit_of, sInt, sBl, fIx, fLen, fAbs, fInt, fList, Mi.isNon, fIsN, fNotN, fCmp, fLt, fLe, fGt, fGe, fAdd, fSub, fNeg, O.frz, Mi.pick, List.getElem?_cons_zero, List.getElem?_cons_succ, List.getElem?_nil, List.set_cons_zero, List.set_cons_succ, List.map_cons, List.map_nil, List.length_cons, List.length_nil, List.replicate_succ, List.replicate_zero, List.cons_append, List.nil_append, Option.map_some, Option.map_none, if_true, if_false, Bool.false_eq_true, Bool.not_true, Bool.not_false, decide_true, decide_false, reduceIte, ne_eq, not_true_eq_false, not_false_eq_true, List.getD_cons_zero, List.getD_cons_succ, Nat.reduceAdd, Nat.reduceSub, Nat.reduceLeDiff, Nat.reduceEqDiff, atI_0, atI_1, atI_2, lam_ap, append_ap, make_ap, setF_ap, own_ap, meth_ap, methD_ap, norm_val, norm_own, norm_ali, onMethD_ap, onMeth_val, onMeth_ali, lz_ap, raise_ap, try_ap, thunk_raw, thunk_exc, byes_ap, Mi.insAt, lendTo, hand, eChain, Mi.isL, onL, okFl]
        rfl
      exact asg_v (op_v (f := fAdd) (var_v rfl) cl pk_v pk_v ad)
    rw [loop_cons]
    simp only [gnam_ap, List.set_cons_succ, List.set_cons_zero, st, e2]
theorem slT_lo {l : List Nat} {a i j : Nat} {τ : List Mi.S} (hl : l.length ≤ 1000) (h1 : τ[i]? = some (.val (.str (mk l)))) (h2 : τ[j]? = some (.val (.int (a : Nat)))) : eSlT (eVar i) pNone (pSome (eVar j)) τ = .ok (.val (.str (mk (l.take a))), τ) := by
  have e : fSlT (.str (mk l)) none (some ((a : Nat) : Int)) = some (.val (.str (mk (l.take a)))) := by
    show (if (mk l).length ≤ sizeLine then some (Mi.S.val (.str (cutS (mk l) none (some ((a : Nat) : Int))))) else none) = _
    have c : cutS (mk l) none (some ((a : Nat) : Int)) = mk (l.take a) := by
      have e : HT.sIx (mk l).length (mk l).length (some (a : Int)) = min a (mk l).length := HT.sIx_nat _ _ a
      unfold cutS
      rw [HT.sIx_none, e, mk_cps, List.drop_zero, Nat.sub_zero, mk_len]
      show mk _ = mk _
      congr 1
      rw [List.take_eq_take_iff]
      omega
    rw [mk_len, if_pos (by rw [sizeLine_eq]; omega), c]
  simp only [eSlT, pNone, pSome, bnd_ap, var_ap, h1, h2, pk_val, of_ap, asI, e, M.ret]
theorem slT_hi {l : List Nat} {a i j : Nat} {τ : List Mi.S} (hl : l.length ≤ 1000) (ha : a ≤ l.length) (h1 : τ[i]? = some (.val (.str (mk l)))) (h2 : τ[j]? = some (.val (.int (a : Nat)))) : eSlT (eVar i) (pSome (eVar j)) pNone τ = .ok (.val (.str (mk (l.drop a))), τ) := by
  have e : fSlT (.str (mk l)) (some ((a : Nat) : Int)) none = some (.val (.str (mk (l.drop a)))) := by
    show (if (mk l).length ≤ sizeLine then some (Mi.S.val (.str (cutS (mk l) (some ((a : Nat) : Int)) none))) else none) = _
    have c : cutS (mk l) (some ((a : Nat) : Int)) none = mk (l.drop a) := by
      have e : HT.sIx (mk l).length 0 (some (a : Int)) = min a (mk l).length := HT.sIx_nat _ _ a
      unfold cutS
      rw [HT.sIx_none, e, mk_cps, mk_len, Nat.min_eq_left ha]
      show mk _ = mk _
      congr 1
      rw [List.take_of_length_le (by rw [List.length_drop]; omega)]
    rw [mk_len, if_pos (by rw [sizeLine_eq]; omega), c]
  simp only [eSlT, pNone, pSome, bnd_ap, var_ap, h1, h2, pk_val, of_ap, asI, e, M.ret]
theorem slT_4 {l : List Nat} {i : Nat} {τ : List Mi.S} (hl : l.length ≤ 1000) (h1 : τ[i]? = some (.val (.str (mk l)))) : eSlT (eVar i) pNone (pSome (eLit (.int 4))) τ = .ok (.val (.str (mk (l.take 4))), τ) := by
  have e : fSlT (.str (mk l)) none (some 4) = some (.val (.str (mk (l.take 4)))) := by
    show (if (mk l).length ≤ sizeLine then some (Mi.S.val (.str (cutS (mk l) none (some 4)))) else none) = _
    have c : cutS (mk l) none (some 4) = mk (l.take 4) := by
      have e : HT.sIx (mk l).length (mk l).length (some 4) = min 4 (mk l).length := HT.sIx_nat _ _ 4
      unfold cutS
      rw [HT.sIx_none, e, mk_cps, List.drop_zero, Nat.sub_zero, mk_len]
      show mk _ = mk _
      congr 1
      rw [List.take_eq_take_iff]
      omega
    rw [mk_len, if_pos (by rw [sizeLine_eq]; omega), c]
  simp only [eSlT, pNone, pSome, bnd_ap, var_ap, h1, lit_ap, pk_val, of_ap, asI, e, M.ret]
theorem mul_z {n : Nat} (h : n ≤ 12) : fMulS (.str "z") (.int (n : Int)) = some (.val (.str (mk (List.replicate n 122)))) := by
  have e : ∀ i : Fin 13, Txt.mul "z" (i.val : Int) = mk (List.replicate i.val 122) := by decide +kernel
  have l : ("z" : Str).length = 1 := by decide +kernel
  have := e ⟨n, by omega⟩
  show (if ("z" : Str).length = 1 ∧ -1000 ≤ (n : Int) ∧ (n : Int) ≤ 1000 then some (Mi.S.val (.str (Txt.mul "z" (n : Int)))) else none) = _
  rw [if_pos ⟨l, by omega, by omega⟩, this]
theorem odd_sign {d : D} (h : d ∈ [D.str "A", .str " ", .str "_", .str "-", .str ".", .str "\n", .str "Z", .str "#", .str "{", .str "/", .str ":"]) : ∃ c, d = .str (mk [c]) ∧ S36.contains c = false := by
  simp only [List.mem_cons, List.not_mem_nil, or_false] at h
  have one : ∀ (s : Str) (c : Nat), s = mk [c] → S36.contains c = false → ∃ c, D.str s = .str (mk [c]) ∧ S36.contains c = false := fun s c e k => ⟨c, by rw [e], k⟩
  rcases h with rfl | rfl | rfl | rfl | rfl | rfl | rfl | rfl | rfl | rfl | rfl
  · exact one _ 65 (by decide +kernel) (by decide)
  · exact one _ 32 (by decide +kernel) (by decide)
  · exact one _ 95 (by decide +kernel) (by decide)
  · exact one _ 45 (by decide +kernel) (by decide)
  · exact one _ 46 (by decide +kernel) (by decide)
  · exact one _ 10 (by decide +kernel) (by decide)
  · exact one _ 90 (by decide +kernel) (by decide)
  · exact one _ 35 (by decide +kernel) (by decide)
  · exact one _ 123 (by decide +kernel) (by decide)
  · exact one _ 47 (by decide +kernel) (by decide)
  · exact one _ 58 (by decide +kernel) (by decide)
theorem names_right_v {o : O} {k : Nat} (h : VS o k) (hk : k < 800000) : ∃ o', f__law_names_right [.lent 0 o] = .ok (.val (.bl true), [.lent 0 o']) ∧ VS o' (k + 40) := by
  obtain ⟨x, o1, e1, m1, v1⟩ := pick_v (xs := L26.map fun c => D.str ⟨#[c]⟩) h (by omega) (by decide) (by decide)
  obtain ⟨c0, hc0, rfl⟩ := List.mem_map.mp m1
  have n0 : Nm [c0] := by
    refine ⟨by simp, List.contains_iff_mem.mpr hc0, ?_⟩
    simp only [List.all_cons, List.all_nil, Bool.and_true]
    exact List.contains_iff_mem.mpr (List.mem_append_left _ hc0)
  obtain ⟨v, o2, e2, a2, b2, v2⟩ := dip_v (many := 12) v1 (by omega) (by decide) (by decide)
  have rg := rng_ok (v := v) (by omega) a2
  have rl := rng_len v
  obtain ⟨o3, l, r4, e3, nm, ll, v3⟩ := nm_loop (rangeD 0 v) o2 (k + 1 + 1) [c0] .non v2 (by rw [rl]; omega) n0 (by rw [rl]; simp only [List.length_cons, List.length_nil]; omega)
  rw [rl] at v3
  obtain ⟨ai, o4, e4, a4, b4, v4⟩ := dip_v (many := (l.length : Int) + 1) v3 (by omega) (by omega) (by omega)
  obtain ⟨a, rfl⟩ := Int.eq_ofNat_of_zero_le a4
  obtain ⟨od, o5, e5, m5, v5⟩ := pick_v (xs := [D.str "A", .str " ", .str "_", .str "-", .str ".", .str "\n", .str "Z", .str "#", .str "{", .str "/", .str ":"]) v4 (by omega) (by simp) (by simp)
  obtain ⟨oc, rfl, ho⟩ := odd_sign m5
  obtain ⟨d, o6, e6, od, v6⟩ := value_v v5 (by omega)
  refine ⟨o6, ?_, v6.up (by omega)⟩
  have ln := len_mk (l := l) (by omega)
  have t1 := name_ok (l := l) (by omega)
  rw [nm_t nm ll] at t1
  rw [f__law_names_right]
  refine run_1 (τ := [.lent 0 o6, .val (.str "abcdefghijklmnopqrstuvwxyz"), .val (.str "abcdefghijklmnopqrstuvwxyz0123456789"), .val (.str (mk l)), r4, .val (.int (a : Nat)), .val (.str (mk [oc]))]) rfl ?_ rfl rfl
  show m__law_names_right [.lent 0 o, .non, .non, .non, .non, .non, .non] = _
  unfold m__law_names_right
  refine at_seq (τ1 := [.lent 0 o, .val (.str "abcdefghijklmnopqrstuvwxyz"), .val (.str "abcdefghijklmnopqrstuvwxyz0123456789"), .non, .non, .non, .non]) (asgT_2 (τ1 := [.lent 0 o, .non, .non, .non, .non, .non, .non]) (by simp only [bnd_ap, of_ap, seq_ap, asg_ap, ret_ap, retN_ap, sif_ap, expr_ap, par_ap, par3_ap, asgT_ap, nil_ap, brk_ap, cnt_ap, give_val, give_own, give_ali, take_val, take_own, take_ali, ta_nil, ta_cons, pk_val, pk_own, pk_ali, pa_nil', pa_cons', var_ap, lit_ap, op_ap, un_ap, cb_ap, lc_ap, ln_ap, tup_ap, lst_ap, cv_ap, ck_ap, cl_ap, and_ap, or_ap, not_ap, eif_ap, bval_ap, bnot_ap, band_ap, bor_ap, gnam_ap, gtup_ap, gend_ap, gcons_ap, rng_ap, for_ap, loop_nil, setIx_ap, run_ap, M.ret, unpk, asB, back, retS, fit_of, sInt, sBl, fIx, fLen, fAbs, fInt, fList, Mi.isNon, fIsN, fNotN, fCmp, fLt, fLe, fGt, fGe, fAdd, fSub, fNeg, O.frz, Mi.pick, List.getElem?_cons_zero, List.getElem?_cons_succ, List.getElem?_nil, List.set_cons_zero, List.set_cons_succ, List.map_cons, List.map_nil, List.length_cons, List.length_nil, List.replicate_succ, List.replicate_zero, List.cons_append, List.nil_append, Option.map_some, Option.map_none, if_true, if_false, Bool.false_eq_true, Bool.not_true, Bool.not_false, decide_true, decide_false, reduceIte, ne_eq, not_true_eq_false, not_false_eq_true, List.getD_cons_zero, List.getD_cons_succ, Nat.reduceAdd, Nat.reduceSub, Nat.reduceLeDiff, Nat.reduceEqDiff, atI_0, atI_1, atI_2, lam_ap, append_ap, make_ap, setF_ap, own_ap, meth_ap, methD_ap, norm_val, norm_own, norm_ali, onMethD_ap, onMeth_val, onMeth_ali, lz_ap, raise_ap, try_ap, thunk_raw, thunk_exc, byes_ap, Mi.insAt, lendTo, hand, eChain, Mi.isL, onL, okFl])) ?_
  refine at_seq (τ1 := [.lent 0 o1, .val (.str "abcdefghijklmnopqrstuvwxyz"), .val (.str "abcdefghijklmnopqrstuvwxyz0123456789"), .val (.str (mk [c0])), .non, .non, .non]) ?_ ?_
  · have cl : eCallL f__law_pick (lCons (eVar 0) (lCons (eCB fListS (lCons (eVar 1) (lNil))) (lNil))) [.lent 0 o, .val (.str "abcdefghijklmnopqrstuvwxyz"), .val (.str "abcdefghijklmnopqrstuvwxyz0123456789"), .non, .non, .non, .non] = .ok (.val (.str (mk [c0])), [.lent 0 o1, .val (.str "abcdefghijklmnopqrstuvwxyz"), .val (.str "abcdefghijklmnopqrstuvwxyz0123456789"), .non, .non, .non, .non]) := by
      simp only [list_let, e1, lendTo, hand, bnd_ap, of_ap, seq_ap, asg_ap, ret_ap, retN_ap, sif_ap, expr_ap, par_ap, par3_ap, asgT_ap, nil_ap, brk_ap, cnt_ap, give_val, give_own, give_ali, take_val, take_own, take_ali, ta_nil, ta_cons, pk_val, pk_own, pk_ali, pa_nil', pa_cons', var_ap, lit_ap, op_ap, un_ap, cb_ap, lc_ap, ln_ap, tup_ap, lst_ap, cv_ap, ck_ap, cl_ap, and_ap, or_ap, not_ap, eif_ap, bval_ap, bnot_ap, band_ap, bor_ap, gnam_ap, gtup_ap, gend_ap, gcons_ap, rng_ap, for_ap, loop_nil, setIx_ap, run_ap, M.ret, unpk, asB, back, retS, fit_of, sInt, sBl, fIx, fLen, fAbs, fInt, fList, Mi.isNon, fIsN, fNotN, fCmp, fLt, fLe, fGt, fGe, fAdd, fSub, fNeg, O.frz, Mi.pick, List.getElem?_cons_zero, List.getElem?_cons_succ, List.getElem?_nil, List.set_cons_zero, List.set_cons_succ, List.map_cons, List.map_nil, List.length_cons, List.length_nil, List.replicate_succ, List.replicate_zero, List.cons_append, List.nil_append, Option.map_some, Option.map_none, if_true, if_false, Bool.false_eq_true, Bool.not_true, Bool.not_false, decide_true, decide_false, reduceIte, ne_eq, not_true_eq_false, not_false_eq_true, List.getD_cons_zero, List.getD_cons_succ, Nat.reduceAdd, Nat.reduceSub, Nat.reduceLeDiff, Nat.reduceEqDiff, atI_0, atI_1, atI_2, lam_ap, append_ap, make_ap, setF_ap, own_ap, meth_ap, methD_ap, norm_val, norm_own, norm_ali, onMethD_ap, onMeth_val, onMeth_ali, lz_ap, raise_ap, try_ap, thunk_raw, thunk_exc, byes_ap, Mi.insAt, lendTo, hand, eChain, Mi.isL, onL, okFl]
      rfl
    exact asg_v cl
  refine at_seq (τ1 := [.lent 0 o3, .val (.str "abcdefghijklmnopqrstuvwxyz"), .val (.str "abcdefghijklmnopqrstuvwxyz0123456789"), .val (.str (mk l)), r4, .non, .non]) ?_ ?_
  · show sFor _ _ nmL _ = _
    have it : iRng ranged1 (lCons (eCallL f__law_dip (lCons (eVar 0) (lCons (eLit (.int 12)) (lNil)))) (lNil)) [.lent 0 o1, .val (.str "abcdefghijklmnopqrstuvwxyz"), .val (.str "abcdefghijklmnopqrstuvwxyz0123456789"), .val (.str (mk [c0])), .non, .non, .non] = .ok ((rangeD 0 v, noPin), [.lent 0 o2, .val (.str "abcdefghijklmnopqrstuvwxyz"), .val (.str "abcdefghijklmnopqrstuvwxyz0123456789"), .val (.str (mk [c0])), .non, .non, .non]) := by
      simp only [e2, rg, lendTo, hand, bnd_ap, of_ap, seq_ap, asg_ap, ret_ap, retN_ap, sif_ap, expr_ap, par_ap, par3_ap, asgT_ap, nil_ap, brk_ap, cnt_ap, give_val, give_own, give_ali, take_val, take_own, take_ali, ta_nil, ta_cons, pk_val, pk_own, pk_ali, pa_nil', pa_cons', var_ap, lit_ap, op_ap, un_ap, cb_ap, lc_ap, ln_ap, tup_ap, lst_ap, cv_ap, ck_ap, cl_ap, and_ap, or_ap, not_ap, eif_ap, bval_ap, bnot_ap, band_ap, bor_ap, gnam_ap, gtup_ap, gend_ap, gcons_ap, rng_ap, for_ap, loop_nil, setIx_ap, run_ap, M.ret, unpk, asB, back, retS, fit_of, sInt, sBl, fIx, fLen, fAbs, fInt, fList, Mi.isNon, fIsN, fNotN, fCmp, fLt, fLe, fGt, fGe, fAdd, fSub, fNeg, O.frz, Mi.pick, List.getElem?_cons_zero, List.getElem?_cons_succ, List.getElem?_nil, List.set_cons_zero, List.set_cons_succ, List.map_cons, List.map_nil, List.length_cons, List.length_nil, List.replicate_succ, List.replicate_zero, List.cons_append, List.nil_append, Option.map_some, Option.map_none, if_true, if_false, Bool.false_eq_true, Bool.not_true, Bool.not_false, decide_true, decide_false, reduceIte, ne_eq, not_true_eq_false, not_false_eq_true, List.getD_cons_zero, List.getD_cons_succ, Nat.reduceAdd, Nat.reduceSub, Nat.reduceLeDiff, Nat.reduceEqDiff, atI_0, atI_1, atI_2, lam_ap, append_ap, make_ap, setF_ap, own_ap, meth_ap, methD_ap, norm_val, norm_own, norm_ali, onMethD_ap, onMeth_val, onMeth_ali, lz_ap, raise_ap, try_ap, thunk_raw, thunk_exc, byes_ap, Mi.insAt, lendTo, hand, eChain, Mi.isL, onL, okFl]
    rw [for_ap, bnd_ap, it]
    exact e3
  refine at_seq (τ1 := [.lent 0 o5, .val (.str "abcdefghijklmnopqrstuvwxyz"), .val (.str "abcdefghijklmnopqrstuvwxyz0123456789"), .val (.str (mk l)), r4, .val (.int (a : Nat)), .val (.str (mk [oc]))]) ?_ ?_
  · have x1 : eCallL f__law_dip (lCons (eVar 0) (lCons (eOp fAdd (eCB fLen (lCons (eVar 3) (lNil))) (eLit (.int 1))) (lNil))) [.lent 0 o3, .val (.str "abcdefghijklmnopqrstuvwxyz"), .val (.str "abcdefghijklmnopqrstuvwxyz0123456789"), .val (.str (mk l)), r4, .non, .non] = .ok (.val (.int (a : Nat)), [.lent 0 o4, .val (.str "abcdefghijklmnopqrstuvwxyz"), .val (.str "abcdefghijklmnopqrstuvwxyz0123456789"), .val (.str (mk l)), r4, .non, .non]) :=
      call_l1 (d1 := .int ((l.length : Int) + 1)) (s1 := .val (.int ((l.length : Int) + 1))) (τ1 := [.val (.str "abcdefghijklmnopqrstuvwxyz"), .val (.str "abcdefghijklmnopqrstuvwxyz0123456789"), .val (.str (mk l)), r4, .non, .non]) (τ2 := [.val (.str "abcdefghijklmnopqrstuvwxyz"), .val (.str "abcdefghijklmnopqrstuvwxyz0123456789"), .val (.str (mk l)), r4, .non, .non]) (op_v (f := fAdd) (s1 := .val (.int (l.length : Int))) (cb_1 (var_v rfl) pk_v ln) lit_v pk_v pk_v rfl) tk_v e4
    have x2 : eCallL f__law_pick (lCons (eVar 0) (lCons (eLst (lCons (eLit (.str "A")) (lCons (eLit (.str " ")) (lCons (eLit (.str "_")) (lCons (eLit (.str "-")) (lCons (eLit (.str ".")) (lCons (eLit (.str "\n")) (lCons (eLit (.str "Z")) (lCons (eLit (.str "#")) (lCons (eLit (.str "{")) (lCons (eLit (.str "/")) (lCons (eLit (.str ":")) (lNil))))))))))))) (lNil))) [.lent 0 o4, .val (.str "abcdefghijklmnopqrstuvwxyz"), .val (.str "abcdefghijklmnopqrstuvwxyz0123456789"), .val (.str (mk l)), r4, .non, .non] = .ok (.val (.str (mk [oc])), [.lent 0 o5, .val (.str "abcdefghijklmnopqrstuvwxyz"), .val (.str "abcdefghijklmnopqrstuvwxyz0123456789"), .val (.str (mk l)), r4, .non, .non]) := by
      simp only [e5, lendTo, hand, bnd_ap, of_ap, seq_ap, asg_ap, ret_ap, retN_ap, sif_ap, expr_ap, par_ap, par3_ap, asgT_ap, nil_ap, brk_ap, cnt_ap, give_val, give_own, give_ali, take_val, take_own, take_ali, ta_nil, ta_cons, pk_val, pk_own, pk_ali, pa_nil', pa_cons', var_ap, lit_ap, op_ap, un_ap, cb_ap, lc_ap, ln_ap, tup_ap, lst_ap, cv_ap, ck_ap, cl_ap, and_ap, or_ap, not_ap, eif_ap, bval_ap, bnot_ap, band_ap, bor_ap, gnam_ap, gtup_ap, gend_ap, gcons_ap, rng_ap, for_ap, loop_nil, setIx_ap, run_ap, M.ret, unpk, asB, back, retS, fit_of, sInt, sBl, fIx, fLen, fAbs, fInt, fList, Mi.isNon, fIsN, fNotN, fCmp, fLt, fLe, fGt, fGe, fAdd, fSub, fNeg, O.frz, Mi.pick, List.getElem?_cons_zero, List.getElem?_cons_succ, List.getElem?_nil, List.set_cons_zero, List.set_cons_succ, List.map_cons, List.map_nil, List.length_cons, List.length_nil, List.replicate_succ, List.replicate_zero, List.cons_append, List.nil_append, Option.map_some, Option.map_none, if_true, if_false, Bool.false_eq_true, Bool.not_true, Bool.not_false, decide_true, decide_false, reduceIte, ne_eq, not_true_eq_false, not_false_eq_true, List.getD_cons_zero, List.getD_cons_succ, Nat.reduceAdd, Nat.reduceSub, Nat.reduceLeDiff, Nat.reduceEqDiff, atI_0, atI_1, atI_2, lam_ap, append_ap, make_ap, setF_ap, own_ap, meth_ap, methD_ap, norm_val, norm_own, norm_ali, onMethD_ap, onMeth_val, onMeth_ali, lz_ap, raise_ap, try_ap, thunk_raw, thunk_exc, byes_ap, Mi.insAt, lendTo, hand, eChain, Mi.isL, onL, okFl]
    simp only [par_ap, lm_2 x1 x2, bnd_ap, give_val, List.set_cons_succ, List.set_cons_zero]
  -- a strange sign
  have hal : a ≤ l.length := by omega
  have ad1 := add_mk (l := l.take a) (m := [oc]) (by rw [List.length_take]; simp only [List.length_cons, List.length_nil]; omega)
  have ad2 := add_mk (l := l.take a ++ [oc]) (m := l.drop a) (by simp only [List.length_append, List.length_take, List.length_drop, List.length_cons, List.length_nil]; omega)
  have t2 := name_ok (l := l.take a ++ [oc] ++ l.drop a) (by simp only [List.length_append, List.length_take, List.length_drop, List.length_cons, List.length_nil]; omega)
  have b2' : nmB (l.take a ++ [oc] ++ l.drop a) = false := by
    unfold nmB
    have : ((l.take a ++ [oc] ++ l.drop a).all fun c => S36.contains c) = false := by
      simp only [List.all_append, List.all_cons, ho, Bool.false_and, Bool.and_false]
    rw [this]
    simp
  rw [b2'] at t2
  refine at_seq (τ1 := [.lent 0 o5, .val (.str "abcdefghijklmnopqrstuvwxyz"), .val (.str "abcdefghijklmnopqrstuvwxyz0123456789"), .val (.str (mk l)), r4, .val (.int (a : Nat)), .val (.str (mk [oc]))]) (if_skip (or_ff (τ1 := [.lent 0 o5, .val (.str "abcdefghijklmnopqrstuvwxyz"), .val (.str "abcdefghijklmnopqrstuvwxyz0123456789"), .val (.str (mk l)), r4, .val (.int (a : Nat)), .val (.str (mk [oc]))]) (nt_f (bv (same_e (a := true) (τ1 := [.lent 0 o5, .val (.str "abcdefghijklmnopqrstuvwxyz"), .val (.str "abcdefghijklmnopqrstuvwxyz0123456789"), .val (.str (mk l)), r4, .val (.int (a : Nat)), .val (.str (mk [oc]))]) ?_))) (nt_f (bv (same_e (a := false) (b := false) (τ1 := [.lent 0 o5, .val (.str "abcdefghijklmnopqrstuvwxyz"), .val (.str "abcdefghijklmnopqrstuvwxyz0123456789"), .val (.str (mk l)), r4, .val (.int (a : Nat)), .val (.str (mk [oc]))]) (call_1 (op_v (f := fAdd) (op_v (f := fAdd) (slT_lo (i := 3) (j := 5) (by omega) rfl rfl) (var_v rfl) pk_v pk_v ad1) (slT_hi (i := 3) (j := 5) (by omega) hal rfl rfl) pk_v pk_v ad2) tk_v t2)))))) ?_
  · show eCallK [0] 1 f_is_name (lCons (eVar 3) lNil) [.lent 0 o5, .val (.str "abcdefghijklmnopqrstuvwxyz"), .val (.str "abcdefghijklmnopqrstuvwxyz0123456789"), .val (.str (mk l)), r4, .val (.int (a : Nat)), .val (.str (mk [oc]))] = _
    simp only [ck_ap, lc_ap, ln_ap, bnd_ap, var_ap, List.getElem?_cons_zero, List.getElem?_cons_succ, M.ret, ta_cons, ta_nil, take_val, Mi.pick, List.map_cons, List.map_nil, List.getD_cons_zero, List.length_cons, List.length_nil, Nat.reduceAdd, if_true, t1]
  -- a digit ahead, too long a name
  have f4 : ("4" : Str) = mk [52] := by decide +kernel
  have ad3 := add_mk (l := [52]) (m := l.take 4) (by rw [List.length_take]; simp only [List.length_cons, List.length_nil]; omega)
  have t3 := name_ok (l := [52] ++ l.take 4) (by simp only [List.length_append, List.length_take, List.length_cons, List.length_nil]; omega)
  have b3 : nmB ([52] ++ l.take 4) = false := by
    unfold nmB
    have : L26.contains (([52] ++ l.take 4).headD 0) = false := by
      show L26.contains 52 = false
      decide
    rw [this]
    simp
  rw [b3] at t3
  have tail : ∀ (w n : Nat), (w : Int) - (l.length : Int) = (n : Int) → n ≤ 12 → eOp fAdd (eVar 3) (eOp fMulS (eLit (.str "z")) (eOp fSub (eLit (.int (w : Int))) (eCB fLen (lCons (eVar 3) (lNil))))) [.lent 0 o5, .val (.str "abcdefghijklmnopqrstuvwxyz"), .val (.str "abcdefghijklmnopqrstuvwxyz0123456789"), .val (.str (mk l)), r4, .val (.int (a : Nat)), .val (.str (mk [oc]))] = .ok (.val (.str (mk (l ++ List.replicate n 122))), [.lent 0 o5, .val (.str "abcdefghijklmnopqrstuvwxyz"), .val (.str "abcdefghijklmnopqrstuvwxyz0123456789"), .val (.str (mk l)), r4, .val (.int (a : Nat)), .val (.str (mk [oc]))]) := fun w n e hn => by
    have ad := add_mk (l := l) (m := List.replicate n 122) (by rw [List.length_replicate]; omega)
    have s1 : fSub (.int (w : Int)) (.int (l.length : Int)) = some (.val (.int (n : Int))) := by
      show some (Mi.S.val (.int _)) = _
      rw [e]
    exact op_v (f := fAdd) (var_v rfl) (op_v (f := fMulS) lit_v (op_v (f := fSub) (s2 := .val (.int (l.length : Int))) lit_v (cb_1 (var_v rfl) pk_v ln) pk_v pk_v s1) pk_v pk_v (mul_z hn)) pk_v pk_v ad
  have l1 : 0 < l.length := nm.1
  have q13 := tail 13 (13 - l.length) (by omega) (by omega)
  have q12 := tail 12 (12 - l.length) (by omega) (by omega)
  have t4 := name_ok (l := l ++ List.replicate (13 - l.length) 122) (by rw [List.length_append, List.length_replicate]; omega)
  have t5 := name_ok (l := l ++ List.replicate (12 - l.length) 122) (by rw [List.length_append, List.length_replicate]; omega)
  have b4' : nmB (l ++ List.replicate (13 - l.length) 122) = false := by
    unfold nmB
    have : decide ((l ++ List.replicate (13 - l.length) 122).length ≤ 12) = false := decide_eq_false (by rw [List.length_append, List.length_replicate]; omega)
    rw [this]
    simp
  have b5' : nmB (l ++ List.replicate (12 - l.length) 122) = true := by
    refine nm_t ⟨by rw [List.length_append]; omega, ?_, ?_⟩ (by rw [List.length_append, List.length_replicate]; omega)
    · have := nm.2.1
      obtain ⟨c, t, e⟩ := List.exists_cons_of_ne_nil (List.length_pos_iff.mp l1)
      rw [e] at this ⊢
      exact this
    · rw [List.all_append, nm.2.2, Bool.true_and, List.all_eq_true]
      intro c hc
      rw [List.eq_of_mem_replicate hc]
      decide
  rw [b4'] at t4
  rw [b5'] at t5
  refine at_seq (τ1 := [.lent 0 o5, .val (.str "abcdefghijklmnopqrstuvwxyz"), .val (.str "abcdefghijklmnopqrstuvwxyz0123456789"), .val (.str (mk l)), r4, .val (.int (a : Nat)), .val (.str (mk [oc]))]) (if_skip (or_ff (τ1 := [.lent 0 o5, .val (.str "abcdefghijklmnopqrstuvwxyz"), .val (.str "abcdefghijklmnopqrstuvwxyz0123456789"), .val (.str (mk l)), r4, .val (.int (a : Nat)), .val (.str (mk [oc]))]) (nt_f (bv (same_e (a := false) (b := false) (τ1 := [.lent 0 o5, .val (.str "abcdefghijklmnopqrstuvwxyz"), .val (.str "abcdefghijklmnopqrstuvwxyz0123456789"), .val (.str (mk l)), r4, .val (.int (a : Nat)), .val (.str (mk [oc]))]) (call_1 (τ1 := [.lent 0 o5, .val (.str "abcdefghijklmnopqrstuvwxyz"), .val (.str "abcdefghijklmnopqrstuvwxyz0123456789"), .val (.str (mk l)), r4, .val (.int (a : Nat)), .val (.str (mk [oc]))]) ?_ tk_v t3)))) (nt_f (bv (same_e (a := false) (b := false) (τ1 := [.lent 0 o5, .val (.str "abcdefghijklmnopqrstuvwxyz"), .val (.str "abcdefghijklmnopqrstuvwxyz0123456789"), .val (.str (mk l)), r4, .val (.int (a : Nat)), .val (.str (mk [oc]))]) (call_1 q13 tk_v t4)))))) ?_
  · refine op_v (f := fAdd) (s1 := .val (.str (mk [52]))) (τ1 := [.lent 0 o5, .val (.str "abcdefghijklmnopqrstuvwxyz"), .val (.str "abcdefghijklmnopqrstuvwxyz0123456789"), .val (.str (mk l)), r4, .val (.int (a : Nat)), .val (.str (mk [oc]))]) ?_ (slT_4 (i := 3) (by omega) rfl) pk_v pk_v ad3
    rw [f4]
    rfl
  have en : f_is_name [.val (.str "")] = .ok (.val (.bl false), [.non]) := by
    have e : ("" : Str) = mk [] := by decide +kernel
    rw [e, name_ok (by simp)]
    rfl
  have on := odd_name od
  refine ret_v (eand_t (τ1 := [.lent 0 o5, .val (.str "abcdefghijklmnopqrstuvwxyz"), .val (.str "abcdefghijklmnopqrstuvwxyz0123456789"), .val (.str (mk l)), r4, .val (.int (a : Nat)), .val (.str (mk [oc]))]) (same_t (a := true) (b := true) (τ1 := [.lent 0 o5, .val (.str "abcdefghijklmnopqrstuvwxyz"), .val (.str "abcdefghijklmnopqrstuvwxyz0123456789"), .val (.str (mk l)), r4, .val (.int (a : Nat)), .val (.str (mk [oc]))]) (call_1 q12 tk_v t5) lit_v rfl) (eand_t (τ1 := [.lent 0 o5, .val (.str "abcdefghijklmnopqrstuvwxyz"), .val (.str "abcdefghijklmnopqrstuvwxyz0123456789"), .val (.str (mk l)), r4, .val (.int (a : Nat)), .val (.str (mk [oc]))]) ?_ ?_))
  · simp only [not_ap, bnd_ap, call_1 lit_v tk_v en, of_ap, asB, M.ret, Bool.not_false]
  · have cl : eCallL f__law_value (lCons (eVar 0) lNil) [.lent 0 o5, .val (.str "abcdefghijklmnopqrstuvwxyz"), .val (.str "abcdefghijklmnopqrstuvwxyz0123456789"), .val (.str (mk l)), r4, .val (.int (a : Nat)), .val (.str (mk [oc]))] = .ok (.val d, [.lent 0 o6, .val (.str "abcdefghijklmnopqrstuvwxyz"), .val (.str "abcdefghijklmnopqrstuvwxyz0123456789"), .val (.str (mk l)), r4, .val (.int (a : Nat)), .val (.str (mk [oc]))]) := call_l e6
    have cn : eCallV f_is_name (lCons (eCallL f__law_value (lCons (eVar 0) (lNil))) (lNil)) [.lent 0 o5, .val (.str "abcdefghijklmnopqrstuvwxyz"), .val (.str "abcdefghijklmnopqrstuvwxyz0123456789"), .val (.str (mk l)), r4, .val (.int (a : Nat)), .val (.str (mk [oc]))] = .ok (.val (.bl false), [.lent 0 o6, .val (.str "abcdefghijklmnopqrstuvwxyz"), .val (.str "abcdefghijklmnopqrstuvwxyz0123456789"), .val (.str (mk l)), r4, .val (.int (a : Nat)), .val (.str (mk [oc]))]) := call_1 cl tk_v on
    simp only [not_ap, bnd_ap, cn, of_ap, asB, M.ret, Bool.not_false]
end K01

namespace K01
open PySem PySem.Spec PyProof.Rows L2 Mi
/-! #### the law -/
theorem rg3 : ranged1 [.int 3] = some [.int 0, .int 1, .int 2] := by
  have : Mi.inR 3 = true := by decide
  simp only [ranged1, this, if_true]
  rfl
theorem turn_v {o : O} {n : Nat} (s : D) (i : D) (t3 t4 t5 t6 : Mi.S) (h : VS o n) (hn : n < 600000) : ∃ (o' : O), (sSeq (sIf (bOr (bNot (bVal (eCallL f__law_integers_right (lCons (eVar 1) (lNil))))) (bOr (bNot (bVal (eCallL f__law_names_right (lCons (eVar 1) (lNil))))) (bOr (bNot (bVal (eCallL f__law_ratios_right (lCons (eVar 1) (lNil))))) (bNot (bVal (eCallL f__law_twice_right (lCons (eVar 1) (lNil)))))))) (sRet (eLit (.bl false))) (sNil)) (sIf (bNot (bVal (eCallL f__law_divisors_right (lCons (eVar 1) (lNil))))) (sRet (eLit (.bl false))) (sNil))) [.val s, .own o, .val i, t3, t4, t5, t6] = .ok (.nx, [.val s, .own o', .val i, t3, t4, t5, t6]) ∧ VS o' (n + 300) := by
  obtain ⟨o1, e1, v1⟩ := integers_right_v h (by omega)
  obtain ⟨o2, e2, v2⟩ := names_right_v v1 (by omega)
  obtain ⟨o3, e3, v3⟩ := ratios_right_v v2 (by omega)
  obtain ⟨o4, e4, v4⟩ := twice_right_v v3 (by omega)
  obtain ⟨o5, e5, v5⟩ := divisors_right_v v4 (by omega)
  refine ⟨o5, ?_, v5.up (by omega)⟩
  simp only [e1, e2, e3, e4, e5, lendTo, hand, bnd_ap, of_ap, seq_ap, asg_ap, ret_ap, retN_ap, sif_ap, expr_ap, par_ap, par3_ap, asgT_ap, nil_ap, brk_ap, cnt_ap, give_val, give_own, give_ali, take_val, take_own, take_ali, ta_nil, ta_cons, pk_val, pk_own, pk_ali, pa_nil', pa_cons', var_ap, lit_ap, op_ap, un_ap, cb_ap, lc_ap, ln_ap, tup_ap, lst_ap, cv_ap, ck_ap, cl_ap, and_ap, or_ap, not_ap, eif_ap, bval_ap, bnot_ap, band_ap, bor_ap, gnam_ap, gtup_ap, gend_ap, gcons_ap, rng_ap, for_ap, loop_nil, setIx_ap, run_ap, M.ret, unpk, asB, back, retS, fit_of, sInt, sBl, fIx, fLen, fAbs, fInt, fList, Mi.isNon, fIsN, fNotN, fCmp, fLt, fLe, fGt, fGe, fAdd, fSub, fNeg, O.frz, Mi.pick, List.getElem?_cons_zero, List.getElem?_cons_succ, List.getElem?_nil, List.set_cons_zero, List.set_cons_succ, List.map_cons, List.map_nil, List.length_cons, List.length_nil, List.replicate_succ, List.replicate_zero, List.cons_append, List.nil_append, Option.map_some, Option.map_none, if_true, if_false, Bool.false_eq_true, Bool.not_true, Bool.not_false, decide_true, decide_false, reduceIte, ne_eq, not_true_eq_false, not_false_eq_true, List.getD_cons_zero, List.getD_cons_succ, Nat.reduceAdd, Nat.reduceSub, Nat.reduceLeDiff, Nat.reduceEqDiff, atI_0, atI_1, atI_2, lam_ap, append_ap, make_ap, setF_ap, own_ap, meth_ap, methD_ap, norm_val, norm_own, norm_ali, onMethD_ap, onMeth_val, onMeth_ali, lz_ap, raise_ap, try_ap, thunk_raw, thunk_exc, byes_ap, Mi.insAt, lendTo, hand, eChain, Mi.isL, onL, okFl]
theorem part_exc (w : D) : g__law_part (.exc "BadNumber" [("part", w)]) = .ok (.val w) := by
  have th : ∀ (τ : List Mi.S), eThunk (.exc "BadNumber" [("part", w)]) (.raw :: τ) = .exc "BadNumber" [("part", w)] (.raw :: τ) := fun τ => rfl
  have c1 : ct_SeenError "BadNumber" = some true := rfl
  have e1 : fIsi isT [.exc "BadNumber" [("part", w)], .cls "BadNumber"] = some (.val (.bl true)) := rfl
  have f1 : fldD "part" is_part es_part (.exc "BadNumber" [("part", w)]) = some (.val w) := rfl
  simp only [g__law_part, runG, m__law_part, th, c1, e1, f1, retS, bnd_ap, of_ap, seq_ap, asg_ap, ret_ap, retN_ap, sif_ap, expr_ap, par_ap, par3_ap, asgT_ap, nil_ap, brk_ap, cnt_ap, give_val, give_own, give_ali, take_val, take_own, take_ali, ta_nil, ta_cons, pk_val, pk_own, pk_ali, pa_nil', pa_cons', var_ap, lit_ap, op_ap, un_ap, cb_ap, lc_ap, ln_ap, tup_ap, lst_ap, cv_ap, ck_ap, cl_ap, and_ap, or_ap, not_ap, eif_ap, bval_ap, bnot_ap, band_ap, bor_ap, gnam_ap, gtup_ap, gend_ap, gcons_ap, rng_ap, for_ap, loop_nil, setIx_ap, run_ap, M.ret, unpk, asB, back, retS, fit_of, sInt, sBl, fIx, fLen, fAbs, fInt, fList, Mi.isNon, fIsN, fNotN, fCmp, fLt, fLe, fGt, fGe, fAdd, fSub, fNeg, O.frz, Mi.pick, List.getElem?_cons_zero, List.getElem?_cons_succ, List.getElem?_nil, List.set_cons_zero, List.set_cons_succ, List.map_cons, List.map_nil, List.length_cons, List.length_nil, List.replicate_succ, List.replicate_zero, List.cons_append, List.nil_append, Option.map_some, Option.map_none, if_true, if_false, Bool.false_eq_true, Bool.not_true, Bool.not_false, decide_true, decide_false, reduceIte, ne_eq, not_true_eq_false, not_false_eq_true, List.getD_cons_zero, List.getD_cons_succ, Nat.reduceAdd, Nat.reduceSub, Nat.reduceLeDiff, Nat.reduceEqDiff, atI_0, atI_1, atI_2, lam_ap, append_ap, make_ap, setF_ap, own_ap, meth_ap, methD_ap, norm_val, norm_own, norm_ali, onMethD_ap, onMeth_val, onMeth_ali, lz_ap, raise_ap, try_ap, thunk_raw, thunk_exc, byes_ap, Mi.insAt, lendTo, hand, eChain, Mi.isL, onL, okFl]
theorem part_ok (d : D) : g__law_part (.ok d) = .ok (.val .non) := by
  have th : ∀ (τ : List Mi.S), eThunk (.ok d) (.raw :: τ) = .ok (.val d, .raw :: τ) := fun τ => rfl
  simp only [g__law_part, runG, m__law_part, th, retS, bnd_ap, of_ap, seq_ap, asg_ap, ret_ap, retN_ap, sif_ap, expr_ap, par_ap, par3_ap, asgT_ap, nil_ap, brk_ap, cnt_ap, give_val, give_own, give_ali, take_val, take_own, take_ali, ta_nil, ta_cons, pk_val, pk_own, pk_ali, pa_nil', pa_cons', var_ap, lit_ap, op_ap, un_ap, cb_ap, lc_ap, ln_ap, tup_ap, lst_ap, cv_ap, ck_ap, cl_ap, and_ap, or_ap, not_ap, eif_ap, bval_ap, bnot_ap, band_ap, bor_ap, gnam_ap, gtup_ap, gend_ap, gcons_ap, rng_ap, for_ap, loop_nil, setIx_ap, run_ap, M.ret, unpk, asB, back, retS, fit_of, sInt, sBl, fIx, fLen, fAbs, fInt, fList, Mi.isNon, fIsN, fNotN, fCmp, fLt, fLe, fGt, fGe, fAdd, fSub, fNeg, O.frz, Mi.pick, List.getElem?_cons_zero, List.getElem?_cons_succ, List.getElem?_nil, List.set_cons_zero, List.set_cons_succ, List.map_cons, List.map_nil, List.length_cons, List.length_nil, List.replicate_succ, List.replicate_zero, List.cons_append, List.nil_append, Option.map_some, Option.map_none, if_true, if_false, Bool.false_eq_true, Bool.not_true, Bool.not_false, decide_true, decide_false, reduceIte, ne_eq, not_true_eq_false, not_false_eq_true, List.getD_cons_zero, List.getD_cons_succ, Nat.reduceAdd, Nat.reduceSub, Nat.reduceLeDiff, Nat.reduceEqDiff, atI_0, atI_1, atI_2, lam_ap, append_ap, make_ap, setF_ap, own_ap, meth_ap, methD_ap, norm_val, norm_own, norm_ali, onMethD_ap, onMeth_val, onMeth_ali, lz_ap, raise_ap, try_ap, thunk_raw, thunk_exc, byes_ap, Mi.insAt, lendTo, hand, eChain, Mi.isL, onL, okFl]
theorem lam_e {cap : List Nat} {me : M Mi.S} {τ τ1 τ' : List Mi.S} {ds : List D} {w : D} (hc : takeAll (cap.map .ali) τ = .ok (ds, τ1)) (e : me (only τ1) = .exc "BadNumber" [("part", w)] τ') : eLam cap me g__law_part τ = .ok (.val w, τ1) := by
  simp only [lam_ap, bnd_ap, hc, thk_exc e, part_exc]
theorem lam_o {cap : List Nat} {me : M Mi.S} {τ τ1 τ' : List Mi.S} {ds : List D} {d : D} (hc : takeAll (cap.map .ali) τ = .ok (ds, τ1)) (e : me (only τ1) = .ok (.val d, τ')) : eLam cap me g__law_part τ = .ok (.val .non, τ1) := by
  simp only [lam_ap, bnd_ap, hc, thk_val e, part_ok]
theorem call_e1 {mf : Fn} {ma : M Mi.S} {s1 : Mi.S} {d1 : D} {c : Str} {fs : List (Str × D)} {τ τ1 τ2 out : List Mi.S} (h1 : ma τ = .ok (s1, τ1)) (t1 : take s1 τ1 = .ok (d1, τ2)) (hf : mf [.val d1] = .exc c fs out) : eCallV mf (lCons ma lNil) τ = .exc c fs τ2 := by
  simp only [cv_ap, lc_ap, ln_ap, bnd_ap, h1, M.ret, ta_cons, ta_nil, t1, List.map_cons, List.map_nil, hf]
theorem call_e2 {mf : Fn} {ma mb : M Mi.S} {d1 d2 : D} {c : Str} {fs : List (Str × D)} {τ τ1 τ2 out : List Mi.S} (h1 : ma τ = .ok (.val d1, τ1)) (h2 : mb τ1 = .ok (.val d2, τ2)) (hf : mf [.val d1, .val d2] = .exc c fs out) : eCallV mf (lCons ma (lCons mb lNil)) τ = .exc c fs τ2 := by
  simp only [cv_ap, lm_2 h1 h2, bnd_ap, M.ret, ta_cons, ta_nil, take_val, List.map_cons, List.map_nil, hf]
theorem call_v2 {mf : Fn} {ma mb : M Mi.S} {d1 d2 : D} {s : Mi.S} {τ τ1 τ2 out : List Mi.S} (h1 : ma τ = .ok (.val d1, τ1)) (h2 : mb τ1 = .ok (.val d2, τ2)) (hf : mf [.val d1, .val d2] = .ok (s, out)) : eCallV mf (lCons ma (lCons mb lNil)) τ = .ok (s, τ2) := by
  simp only [cv_ap, lm_2 h1 h2, bnd_ap, M.ret, ta_cons, ta_nil, take_val, List.map_cons, List.map_nil, hf]
theorem common_no {d : D} (h : f_are_integers [.val d] = .ok (.val (.bl false), [.non])) : f_common_divisor [.val d] = .exc "BadNumber" [("part", .str "values")] [.non] := by
  have e := need_n (w := .str "values") h
  simp only [f_common_divisor, m_common_divisor, e, bnd_ap, of_ap, seq_ap, asg_ap, ret_ap, retN_ap, sif_ap, expr_ap, par_ap, par3_ap, asgT_ap, nil_ap, brk_ap, cnt_ap, give_val, give_own, give_ali, take_val, take_own, take_ali, ta_nil, ta_cons, pk_val, pk_own, pk_ali, pa_nil', pa_cons', var_ap, lit_ap, op_ap, un_ap, cb_ap, lc_ap, ln_ap, tup_ap, lst_ap, cv_ap, ck_ap, cl_ap, and_ap, or_ap, not_ap, eif_ap, bval_ap, bnot_ap, band_ap, bor_ap, gnam_ap, gtup_ap, gend_ap, gcons_ap, rng_ap, for_ap, loop_nil, setIx_ap, run_ap, M.ret, unpk, asB, back, retS, fit_of, sInt, sBl, fIx, fLen, fAbs, fInt, fList, Mi.isNon, fIsN, fNotN, fCmp, fLt, fLe, fGt, fGe, fAdd, fSub, fNeg, O.frz, Mi.pick, List.getElem?_cons_zero, List.getElem?_cons_succ, List.getElem?_nil, List.set_cons_zero, List.set_cons_succ, List.map_cons, List.map_nil, List.length_cons, List.length_nil, List.replicate_succ, List.replicate_zero, List.cons_append, List.nil_append, Option.map_some, Option.map_none, if_true, if_false, Bool.false_eq_true, Bool.not_true, Bool.not_false, decide_true, decide_false, reduceIte, ne_eq, not_true_eq_false, not_false_eq_true, List.getD_cons_zero, List.getD_cons_succ, Nat.reduceAdd, Nat.reduceSub, Nat.reduceLeDiff, Nat.reduceEqDiff, atI_0, atI_1, atI_2, lam_ap, append_ap, make_ap, setF_ap, own_ap, meth_ap, methD_ap, norm_val, norm_own, norm_ali, onMethD_ap, onMeth_val, onMeth_ali, lz_ap, raise_ap, try_ap, thunk_raw, thunk_exc, byes_ap, Mi.insAt, lendTo, hand, eChain, Mi.isL, onL, okFl]
theorem primitive_no {d : D} (h : f_are_integers [.val d] = .ok (.val (.bl false), [.non])) : f_primitive [.val d] = .exc "BadNumber" [("part", .str "values")] [.non] := by
  have e := need_n (w := .str "values") h
  simp only [f_primitive, m_primitive, e, bnd_ap, of_ap, seq_ap, asg_ap, ret_ap, retN_ap, sif_ap, expr_ap, par_ap, par3_ap, asgT_ap, nil_ap, brk_ap, cnt_ap, give_val, give_own, give_ali, take_val, take_own, take_ali, ta_nil, ta_cons, pk_val, pk_own, pk_ali, pa_nil', pa_cons', var_ap, lit_ap, op_ap, un_ap, cb_ap, lc_ap, ln_ap, tup_ap, lst_ap, cv_ap, ck_ap, cl_ap, and_ap, or_ap, not_ap, eif_ap, bval_ap, bnot_ap, band_ap, bor_ap, gnam_ap, gtup_ap, gend_ap, gcons_ap, rng_ap, for_ap, loop_nil, setIx_ap, run_ap, M.ret, unpk, asB, back, retS, fit_of, sInt, sBl, fIx, fLen, fAbs, fInt, fList, Mi.isNon, fIsN, fNotN, fCmp, fLt, fLe, fGt, fGe, fAdd, fSub, fNeg, O.frz, Mi.pick, List.getElem?_cons_zero, List.getElem?_cons_succ, List.getElem?_nil, List.set_cons_zero, List.set_cons_succ, List.map_cons, List.map_nil, List.length_cons, List.length_nil, List.replicate_succ, List.replicate_zero, List.cons_append, List.nil_append, Option.map_some, Option.map_none, if_true, if_false, Bool.false_eq_true, Bool.not_true, Bool.not_false, decide_true, decide_false, reduceIte, ne_eq, not_true_eq_false, not_false_eq_true, List.getD_cons_zero, List.getD_cons_succ, Nat.reduceAdd, Nat.reduceSub, Nat.reduceLeDiff, Nat.reduceEqDiff, atI_0, atI_1, atI_2, lam_ap, append_ap, make_ap, setF_ap, own_ap, meth_ap, methD_ap, norm_val, norm_own, norm_ali, onMethD_ap, onMeth_val, onMeth_ali, lz_ap, raise_ap, try_ap, thunk_raw, thunk_exc, byes_ap, Mi.insAt, lendTo, hand, eChain, Mi.isL, onL, okFl]
theorem lowest_n1 {d e : D} (h : tgd d = true) (hn : isI d = false) : f_lowest [.val d, .val e] = .exc "BadNumber" [("part", .str "number")] [.non, .non] := by
  have q := need_no (w := .str "number") h hn
  simp only [f_lowest, m_lowest, q, bnd_ap, of_ap, seq_ap, asg_ap, ret_ap, retN_ap, sif_ap, expr_ap, par_ap, par3_ap, asgT_ap, nil_ap, brk_ap, cnt_ap, give_val, give_own, give_ali, take_val, take_own, take_ali, ta_nil, ta_cons, pk_val, pk_own, pk_ali, pa_nil', pa_cons', var_ap, lit_ap, op_ap, un_ap, cb_ap, lc_ap, ln_ap, tup_ap, lst_ap, cv_ap, ck_ap, cl_ap, and_ap, or_ap, not_ap, eif_ap, bval_ap, bnot_ap, band_ap, bor_ap, gnam_ap, gtup_ap, gend_ap, gcons_ap, rng_ap, for_ap, loop_nil, setIx_ap, run_ap, M.ret, unpk, asB, back, retS, fit_of, sInt, sBl, fIx, fLen, fAbs, fInt, fList, Mi.isNon, fIsN, fNotN, fCmp, fLt, fLe, fGt, fGe, fAdd, fSub, fNeg, O.frz, Mi.pick, List.getElem?_cons_zero, List.getElem?_cons_succ, List.getElem?_nil, List.set_cons_zero, List.set_cons_succ, List.map_cons, List.map_nil, List.length_cons, List.length_nil, List.replicate_succ, List.replicate_zero, List.cons_append, List.nil_append, Option.map_some, Option.map_none, if_true, if_false, Bool.false_eq_true, Bool.not_true, Bool.not_false, decide_true, decide_false, reduceIte, ne_eq, not_true_eq_false, not_false_eq_true, List.getD_cons_zero, List.getD_cons_succ, Nat.reduceAdd, Nat.reduceSub, Nat.reduceLeDiff, Nat.reduceEqDiff, atI_0, atI_1, atI_2, lam_ap, append_ap, make_ap, setF_ap, own_ap, meth_ap, methD_ap, norm_val, norm_own, norm_ali, onMethD_ap, onMeth_val, onMeth_ali, lz_ap, raise_ap, try_ap, thunk_raw, thunk_exc, byes_ap, Mi.insAt, lendTo, hand, eChain, Mi.isL, onL, okFl]
theorem lowest_n2 {i : Int} {d : D} (h : tgd d = true) (hn : isI d = false) : f_lowest [.val (.int i), .val d] = .exc "BadNumber" [("part", .str "by")] [.non, .non] := by
  have q1 := need_any i (.str "number")
  have q2 := need_no (w := .str "by") h hn
  simp only [f_lowest, m_lowest, q1, q2, bnd_ap, of_ap, seq_ap, asg_ap, ret_ap, retN_ap, sif_ap, expr_ap, par_ap, par3_ap, asgT_ap, nil_ap, brk_ap, cnt_ap, give_val, give_own, give_ali, take_val, take_own, take_ali, ta_nil, ta_cons, pk_val, pk_own, pk_ali, pa_nil', pa_cons', var_ap, lit_ap, op_ap, un_ap, cb_ap, lc_ap, ln_ap, tup_ap, lst_ap, cv_ap, ck_ap, cl_ap, and_ap, or_ap, not_ap, eif_ap, bval_ap, bnot_ap, band_ap, bor_ap, gnam_ap, gtup_ap, gend_ap, gcons_ap, rng_ap, for_ap, loop_nil, setIx_ap, run_ap, M.ret, unpk, asB, back, retS, fit_of, sInt, sBl, fIx, fLen, fAbs, fInt, fList, Mi.isNon, fIsN, fNotN, fCmp, fLt, fLe, fGt, fGe, fAdd, fSub, fNeg, O.frz, Mi.pick, List.getElem?_cons_zero, List.getElem?_cons_succ, List.getElem?_nil, List.set_cons_zero, List.set_cons_succ, List.map_cons, List.map_nil, List.length_cons, List.length_nil, List.replicate_succ, List.replicate_zero, List.cons_append, List.nil_append, Option.map_some, Option.map_none, if_true, if_false, Bool.false_eq_true, Bool.not_true, Bool.not_false, decide_true, decide_false, reduceIte, ne_eq, not_true_eq_false, not_false_eq_true, List.getD_cons_zero, List.getD_cons_succ, Nat.reduceAdd, Nat.reduceSub, Nat.reduceLeDiff, Nat.reduceEqDiff, atI_0, atI_1, atI_2, lam_ap, append_ap, make_ap, setF_ap, own_ap, meth_ap, methD_ap, norm_val, norm_own, norm_ali, onMethD_ap, onMeth_val, onMeth_ali, lz_ap, raise_ap, try_ap, thunk_raw, thunk_exc, byes_ap, Mi.insAt, lendTo, hand, eChain, Mi.isL, onL, okFl]
theorem lowest_0 (i : Int) : f_lowest [.val (.int i), .val (.int 0)] = .exc "BadNumber" [("part", .str "by")] [.non, .non] := by
  have q1 := need_any i (.str "number")
  have q2 := need_any 0 (.str "by")
  have e0 : fEq (.int 0) (.int 0) = some (.val (.bl true)) := by rw [Mi.eq_int]; rfl
  simp only [f_lowest, m_lowest, q1, q2, e0, bnd_ap, of_ap, seq_ap, asg_ap, ret_ap, retN_ap, sif_ap, expr_ap, par_ap, par3_ap, asgT_ap, nil_ap, brk_ap, cnt_ap, give_val, give_own, give_ali, take_val, take_own, take_ali, ta_nil, ta_cons, pk_val, pk_own, pk_ali, pa_nil', pa_cons', var_ap, lit_ap, op_ap, un_ap, cb_ap, lc_ap, ln_ap, tup_ap, lst_ap, cv_ap, ck_ap, cl_ap, and_ap, or_ap, not_ap, eif_ap, bval_ap, bnot_ap, band_ap, bor_ap, gnam_ap, gtup_ap, gend_ap, gcons_ap, rng_ap, for_ap, loop_nil, setIx_ap, run_ap, M.ret, unpk, asB, back, retS, fit_of, sInt, sBl, fIx, fLen, fAbs, fInt, fList, Mi.isNon, fIsN, fNotN, fCmp, fLt, fLe, fGt, fGe, fAdd, fSub, fNeg, O.frz, Mi.pick, List.getElem?_cons_zero, List.getElem?_cons_succ, List.getElem?_nil, List.set_cons_zero, List.set_cons_succ, List.map_cons, List.map_nil, List.length_cons, List.length_nil, List.replicate_succ, List.replicate_zero, List.cons_append, List.nil_append, Option.map_some, Option.map_none, if_true, if_false, Bool.false_eq_true, Bool.not_true, Bool.not_false, decide_true, decide_false, reduceIte, ne_eq, not_true_eq_false, not_false_eq_true, List.getD_cons_zero, List.getD_cons_succ, Nat.reduceAdd, Nat.reduceSub, Nat.reduceLeDiff, Nat.reduceEqDiff, atI_0, atI_1, atI_2, lam_ap, append_ap, make_ap, setF_ap, own_ap, meth_ap, methD_ap, norm_val, norm_own, norm_ali, onMethD_ap, onMeth_val, onMeth_ali, lz_ap, raise_ap, try_ap, thunk_raw, thunk_exc, byes_ap, Mi.insAt, lendTo, hand, eChain, Mi.isL, onL, okFl]
  rfl
theorem lowest_05 : f_lowest [.val (.int 0), .val (.int (-5))] = .ok (.val (.tup [.int 0, .int 1]), [.non, .non]) := by
  obtain ⟨p, q, s, e, s0, hp, hq, q0, g⟩ := lowest_ok (a := 0) (b := -5) (by decide) (by decide) (by decide)
  have p0 : p = 0 := by
    rcases Int.mul_eq_zero.mp hp.symm with h | h
    · exact absurd h s0
    · exact h
  subst p0
  have d : q.natAbs ∣ gcdL [0, q] := dvd_gcdL fun n hn => by
    simp only [List.mem_cons, List.not_mem_nil, or_false] at hn
    rcases hn with rfl | rfl
    · exact Nat.dvd_zero _
    · exact Nat.dvd_refl _
  rw [g] at d
  have := Nat.le_of_dvd (by decide) d
  have q1 : q = 1 := by omega
  rw [q1] at e
  exact e
def noneL : List D := [.non, .int 5, .str "12", .lst [.non], .lst [.bl true], .lst [.int 1, .str "2"], .dic [], .tup [.int 1, .tup [.int 2]]]
theorem none_no {d : D} (h : d ∈ noneL) : f_are_integers [.val d] = .ok (.val (.bl false), [.non]) := by
  simp only [noneL, List.mem_cons, List.not_mem_nil, or_false] at h
  rcases h with rfl | rfl | rfl | rfl | rfl | rfl | rfl | rfl
  · exact are_no rfl (fun xs e => by cases e) rfl
  · exact are_no rfl (fun xs e => by cases e) rfl
  · exact are_no rfl (fun xs e => by cases e) rfl
  · exact are_no rfl (fun xs e => by cases e; exact ⟨by decide, rfl⟩) rfl
  · exact are_no rfl (fun xs e => by cases e; exact ⟨by decide, rfl⟩) rfl
  · exact are_no rfl (fun xs e => by cases e; exact ⟨by decide, rfl⟩) rfl
  · exact are_no rfl (fun xs e => by cases e) rfl
  · exact are_no rfl (fun xs e => by cases e; exact ⟨by decide, rfl⟩) rfl
def dueL : List D := [.str "values", .str "values", .str "number", .str "by", .str "by", .non]
theorem law_true (ns : List Int) (hl : ns.length ≤ 63) (hb : ∀ z ∈ ns, Builtin.Int.intBits z ≤ 1048576) : ∃ out, f_law [.val (.scr (ns.map D.int))] = .ok (.val (.bl true), out) := by
  obtain ⟨o, e0, v0⟩ := cup_v ns
  obtain ⟨o1, e1, v1⟩ := turn_v (.scr (ns.map D.int)) (.int 0) .non .non .non .non v0 (by omega)
  obtain ⟨o2, e2, v2⟩ := turn_v (.scr (ns.map D.int)) (.int 1) .non .non .non .non v1 (by omega)
  obtain ⟨o3, e3, v3⟩ := turn_v (.scr (ns.map D.int)) (.int 2) .non .non .non .non v2 (by omega)
  obtain ⟨da, o4, e4, q4, v4⟩ := value_v v3 (by omega)
  obtain ⟨db, o5, e5, q5, v5⟩ := value_v v4 (by omega)
  obtain ⟨dn, o6, e6, m6, v6⟩ := pick_v (xs := noneL) v5 (by omega) (by decide) (by decide)
  obtain ⟨ta, na⟩ := odd_t q4
  obtain ⟨tb, nb⟩ := odd_t q5
  have no := none_no m6
  refine ⟨[.non], ?_⟩
  refine run_1 (τ := [.val (.scr (ns.map D.int)), .own o6, .val (.int 2), .val da, .val db, .val dn, .own (.lst dueL)]) rfl ?_ rfl rfl
  refine at_seq (asg_o (call_1 (var_v rfl) tk_v e0)) ?_
  refine at_seq (τ1 := [.val (.scr (ns.map D.int)), .own o3, .val (.int 2), .non, .non, .non, .non]) ?_ ?_
  · have r : iRng ranged1 (lCons (eLit (.int 3)) lNil) [.val (.scr (ns.map D.int)), .own o, .non, .non, .non, .non, .non] = .ok (([.int 0, .int 1, .int 2], noPin), [.val (.scr (ns.map D.int)), .own o, .non, .non, .non, .non, .non]) := by
      simp only [rg3, bnd_ap, of_ap, seq_ap, asg_ap, ret_ap, retN_ap, sif_ap, expr_ap, par_ap, par3_ap, asgT_ap, nil_ap, brk_ap, cnt_ap, give_val, give_own, give_ali, take_val, take_own, take_ali, ta_nil, ta_cons, pk_val, pk_own, pk_ali, pa_nil', pa_cons', var_ap, lit_ap, op_ap, un_ap, cb_ap, lc_ap, ln_ap, tup_ap, lst_ap, cv_ap, ck_ap, cl_ap, and_ap, or_ap, not_ap, eif_ap, bval_ap, bnot_ap, band_ap, bor_ap, gnam_ap, gtup_ap, gend_ap, gcons_ap, rng_ap, for_ap, loop_nil, setIx_ap, run_ap, M.ret, unpk, asB, back, retS, fit_of, sInt, sBl, fIx, fLen, fAbs, fInt, fList, Mi.isNon, fIsN, fNotN, fCmp, fLt, fLe, fGt, fGe, fAdd, fSub, fNeg, O.frz, Mi.pick, List.getElem?_cons_zero, List.getElem?_cons_succ, List.getElem?_nil, List.set_cons_zero, List.set_cons_succ, List.map_cons, List.map_nil, List.length_cons, List.length_nil, List.replicate_succ, List.replicate_zero, List.cons_append, List.nil_append, Option.map_some, Option.map_none, if_true, if_false, Bool.false_eq_true, Bool.not_true, Bool.not_false, decide_true, decide_false, reduceIte, ne_eq, not_true_eq_false, not_false_eq_true, List.getD_cons_zero, List.getD_cons_succ, Nat.reduceAdd, Nat.reduceSub, Nat.reduceLeDiff, Nat.reduceEqDiff, atI_0, atI_1, atI_2, lam_ap, append_ap, make_ap, setF_ap, own_ap, meth_ap, methD_ap, norm_val, norm_own, norm_ali, onMethD_ap, onMeth_val, onMeth_ali, lz_ap, raise_ap, try_ap, thunk_raw, thunk_exc, byes_ap, Mi.insAt, lendTo, hand, eChain, Mi.isL, onL, okFl]
    show sFor _ _ _ [.val (.scr (ns.map D.int)), .own o, .non, .non, .non, .non, .non] = _
    rw [for_ap]
    simp only [bnd_ap, r]
    rw [loop_cons]
    simp only [gnam_ap, List.set_cons_succ, List.set_cons_zero]
    rw [e1]
    simp only
    rw [loop_cons]
    simp only [gnam_ap, List.set_cons_succ, List.set_cons_zero]
    rw [e2]
    simp only
    rw [loop_cons]
    simp only [gnam_ap, List.set_cons_succ, List.set_cons_zero]
    rw [e3]
    simp only [loop_nil]
  refine at_seq (τ1 := [.val (.scr (ns.map D.int)), .own o5, .val (.int 2), .val da, .val db, .non, .non]) (by simp only [e4, e5, lendTo, hand, bnd_ap, of_ap, seq_ap, asg_ap, ret_ap, retN_ap, sif_ap, expr_ap, par_ap, par3_ap, asgT_ap, nil_ap, brk_ap, cnt_ap, give_val, give_own, give_ali, take_val, take_own, take_ali, ta_nil, ta_cons, pk_val, pk_own, pk_ali, pa_nil', pa_cons', var_ap, lit_ap, op_ap, un_ap, cb_ap, lc_ap, ln_ap, tup_ap, lst_ap, cv_ap, ck_ap, cl_ap, and_ap, or_ap, not_ap, eif_ap, bval_ap, bnot_ap, band_ap, bor_ap, gnam_ap, gtup_ap, gend_ap, gcons_ap, rng_ap, for_ap, loop_nil, setIx_ap, run_ap, M.ret, unpk, asB, back, retS, fit_of, sInt, sBl, fIx, fLen, fAbs, fInt, fList, Mi.isNon, fIsN, fNotN, fCmp, fLt, fLe, fGt, fGe, fAdd, fSub, fNeg, O.frz, Mi.pick, List.getElem?_cons_zero, List.getElem?_cons_succ, List.getElem?_nil, List.set_cons_zero, List.set_cons_succ, List.map_cons, List.map_nil, List.length_cons, List.length_nil, List.replicate_succ, List.replicate_zero, List.cons_append, List.nil_append, Option.map_some, Option.map_none, if_true, if_false, Bool.false_eq_true, Bool.not_true, Bool.not_false, decide_true, decide_false, reduceIte, ne_eq, not_true_eq_false, not_false_eq_true, List.getD_cons_zero, List.getD_cons_succ, Nat.reduceAdd, Nat.reduceSub, Nat.reduceLeDiff, Nat.reduceEqDiff, atI_0, atI_1, atI_2, lam_ap, append_ap, make_ap, setF_ap, own_ap, meth_ap, methD_ap, norm_val, norm_own, norm_ali, onMethD_ap, onMeth_val, onMeth_ali, lz_ap, raise_ap, try_ap, thunk_raw, thunk_exc, byes_ap, Mi.insAt, lendTo, hand, eChain, Mi.isL, onL, okFl]) ?_
  refine at_seq (τ1 := [.val (.scr (ns.map D.int)), .own o6, .val (.int 2), .val da, .val db, .val dn, .non]) (by
    unfold noneL at e6
    simp only [e6, lendTo, hand, bnd_ap, of_ap, seq_ap, asg_ap, ret_ap, retN_ap, sif_ap, expr_ap, par_ap, par3_ap, asgT_ap, nil_ap, brk_ap, cnt_ap, give_val, give_own, give_ali, take_val, take_own, take_ali, ta_nil, ta_cons, pk_val, pk_own, pk_ali, pa_nil', pa_cons', var_ap, lit_ap, op_ap, un_ap, cb_ap, lc_ap, ln_ap, tup_ap, lst_ap, cv_ap, ck_ap, cl_ap, and_ap, or_ap, not_ap, eif_ap, bval_ap, bnot_ap, band_ap, bor_ap, gnam_ap, gtup_ap, gend_ap, gcons_ap, rng_ap, for_ap, loop_nil, setIx_ap, run_ap, M.ret, unpk, asB, back, retS, fit_of, sInt, sBl, fIx, fLen, fAbs, fInt, fList, Mi.isNon, fIsN, fNotN, fCmp, fLt, fLe, fGt, fGe, fAdd, fSub, fNeg, O.frz, Mi.pick, List.getElem?_cons_zero, List.getElem?_cons_succ, List.getElem?_nil, List.set_cons_zero, List.set_cons_succ, List.map_cons, List.map_nil, List.length_cons, List.length_nil, List.replicate_succ, List.replicate_zero, List.cons_append, List.nil_append, Option.map_some, Option.map_none, if_true, if_false, Bool.false_eq_true, Bool.not_true, Bool.not_false, decide_true, decide_false, reduceIte, ne_eq, not_true_eq_false, not_false_eq_true, List.getD_cons_zero, List.getD_cons_succ, Nat.reduceAdd, Nat.reduceSub, Nat.reduceLeDiff, Nat.reduceEqDiff, atI_0, atI_1, atI_2, lam_ap, append_ap, make_ap, setF_ap, own_ap, meth_ap, methD_ap, norm_val, norm_own, norm_ali, onMethD_ap, onMeth_val, onMeth_ali, lz_ap, raise_ap, try_ap, thunk_raw, thunk_exc, byes_ap, Mi.insAt, lendTo, hand, eChain, Mi.isL, onL, okFl]) ?_
  have nL : ∀ τ : List Mi.S, lNil τ = .ok ([], τ) := fun _ => rfl
  refine at_seq (τ1 := [.val (.scr (ns.map D.int)), .own o6, .val (.int 2), .val da, .val db, .val dn, .own (.lst [.str "values"])]) (asg_o (τ1 := [.val (.scr (ns.map D.int)), .own o6, .val (.int 2), .val da, .val db, .val dn, .non]) ?_) ?_
  · have l1 := lam_e (cap := [5]) (me := eCallV f_common_divisor (lCons (eVar 5) (lNil))) (τ := [.val (.scr (ns.map D.int)), .own o6, .val (.int 2), .val da, .val db, .val dn, .non]) (τ1 := [.val (.scr (ns.map D.int)), .own o6, .val (.int 2), .val da, .val db, .val dn, .non]) (ds := [dn]) rfl (call_e1 (var_v rfl) tk_v (common_no no))
    simp only [lst_ap, lm_1 l1, bnd_ap, ta_cons, ta_nil, take_val, M.ret, of_ap, List.length_cons, List.length_nil, fit_of, Nat.reduceAdd, Nat.reduceLeDiff]
  refine at_seq (τ1 := [.val (.scr (ns.map D.int)), .own o6, .val (.int 2), .val da, .val db, .val dn, .own (.lst [.str "values", .str "values"])]) (app_v (i := 6) (xs := [.str "values"]) (τ := [.val (.scr (ns.map D.int)), .own o6, .val (.int 2), .val da, .val db, .val dn, .own (.lst [.str "values"])]) (τ1 := [.val (.scr (ns.map D.int)), .own o6, .val (.int 2), .val da, .val db, .val dn, .own (.lst [.str "values"])]) (τ2 := [.val (.scr (ns.map D.int)), .own o6, .val (.int 2), .val da, .val db, .val dn, .own (.lst [.str "values"])]) (d := .str "values") rfl (lam_e (cap := [5]) (ds := [dn]) rfl (call_e1 (var_v rfl) tk_v (primitive_no no))) tk_v rfl (by simp)) ?_
  refine at_seq (τ1 := [.val (.scr (ns.map D.int)), .own o6, .val (.int 2), .val da, .val db, .val dn, .own (.lst [.str "values", .str "values", .str "number"])]) (app_v (i := 6) (xs := [.str "values", .str "values"]) (τ := [.val (.scr (ns.map D.int)), .own o6, .val (.int 2), .val da, .val db, .val dn, .own (.lst [.str "values", .str "values"])]) (τ1 := [.val (.scr (ns.map D.int)), .own o6, .val (.int 2), .val da, .val db, .val dn, .own (.lst [.str "values", .str "values"])]) (τ2 := [.val (.scr (ns.map D.int)), .own o6, .val (.int 2), .val da, .val db, .val dn, .own (.lst [.str "values", .str "values"])]) (d := .str "number") rfl (lam_e (cap := [3]) (ds := [da]) rfl (call_e2 (var_v rfl) lit_v (lowest_n1 ta na))) tk_v rfl (by simp)) ?_
  refine at_seq (τ1 := [.val (.scr (ns.map D.int)), .own o6, .val (.int 2), .val da, .val db, .val dn, .own (.lst [.str "values", .str "values", .str "number", .str "by"])]) (app_v (i := 6) (xs := [.str "values", .str "values", .str "number"]) (τ := [.val (.scr (ns.map D.int)), .own o6, .val (.int 2), .val da, .val db, .val dn, .own (.lst [.str "values", .str "values", .str "number"])]) (τ1 := [.val (.scr (ns.map D.int)), .own o6, .val (.int 2), .val da, .val db, .val dn, .own (.lst [.str "values", .str "values", .str "number"])]) (τ2 := [.val (.scr (ns.map D.int)), .own o6, .val (.int 2), .val da, .val db, .val dn, .own (.lst [.str "values", .str "values", .str "number"])]) (d := .str "by") rfl (lam_e (cap := [4]) (ds := [db]) rfl (call_e2 lit_v (var_v rfl) (lowest_n2 tb nb))) tk_v rfl (by simp)) ?_
  refine at_seq (τ1 := [.val (.scr (ns.map D.int)), .own o6, .val (.int 2), .val da, .val db, .val dn, .own (.lst [.str "values", .str "values", .str "number", .str "by", .str "by"])]) (app_v (i := 6) (xs := [.str "values", .str "values", .str "number", .str "by"]) (τ := [.val (.scr (ns.map D.int)), .own o6, .val (.int 2), .val da, .val db, .val dn, .own (.lst [.str "values", .str "values", .str "number", .str "by"])]) (τ1 := [.val (.scr (ns.map D.int)), .own o6, .val (.int 2), .val da, .val db, .val dn, .own (.lst [.str "values", .str "values", .str "number", .str "by"])]) (τ2 := [.val (.scr (ns.map D.int)), .own o6, .val (.int 2), .val da, .val db, .val dn, .own (.lst [.str "values", .str "values", .str "number", .str "by"])]) (d := .str "by") rfl (lam_e (cap := []) (ds := []) rfl (call_e2 lit_v lit_v (lowest_0 4))) tk_v rfl (by simp)) ?_
  refine at_seq (τ1 := [.val (.scr (ns.map D.int)), .own o6, .val (.int 2), .val da, .val db, .val dn, .own (.lst dueL)]) (app_v (i := 6) (xs := [.str "values", .str "values", .str "number", .str "by", .str "by"]) (τ := [.val (.scr (ns.map D.int)), .own o6, .val (.int 2), .val da, .val db, .val dn, .own (.lst [.str "values", .str "values", .str "number", .str "by", .str "by"])]) (τ1 := [.val (.scr (ns.map D.int)), .own o6, .val (.int 2), .val da, .val db, .val dn, .own (.lst [.str "values", .str "values", .str "number", .str "by", .str "by"])]) (τ2 := [.val (.scr (ns.map D.int)), .own o6, .val (.int 2), .val da, .val db, .val dn, .own (.lst [.str "values", .str "values", .str "number", .str "by", .str "by"])]) (d := .non) rfl (lam_o (cap := []) (ds := []) rfl (call_v2 lit_v (un_v (s' := .val (.int (-5))) lit_v pk_v rfl) lowest_05)) tk_v rfl (by simp)) ?_
  have pl : PlN 1 (.lst dueL) := .lst fun x hx => by
    simp only [dueL, List.mem_cons, List.not_mem_nil, or_false] at hx
    rcases hx with rfl | rfl | rfl | rfl | rfl | rfl
    · exact .str _ (by decide +kernel)
    · exact .str _ (by decide +kernel)
    · exact .str _ (by decide +kernel)
    · exact .str _ (by decide +kernel)
    · exact .str _ (by decide +kernel)
    · exact .non
  refine ret_v (eand_t (τ1 := [.val (.scr (ns.map D.int)), .own o6, .val (.int 2), .val da, .val db, .val dn, .own (.lst dueL)]) ?_ ?_)
  · refine eq_tt (k := 1) (s1 := .ali 6) (s2 := .own (.lst dueL)) (d := .lst dueL) (τ1 := [.val (.scr (ns.map D.int)), .own o6, .val (.int 2), .val da, .val db, .val dn, .own (.lst dueL)]) (τ2 := [.val (.scr (ns.map D.int)), .own o6, .val (.int 2), .val da, .val db, .val dn, .own (.lst dueL)]) (var_o (o := .lst dueL) rfl) ?_ (pk_a (o := .lst dueL) rfl) (pk_o (o := .lst dueL)) pl (by decide)
    simp only [bnd_ap, of_ap, seq_ap, asg_ap, ret_ap, retN_ap, sif_ap, expr_ap, par_ap, par3_ap, asgT_ap, nil_ap, brk_ap, cnt_ap, give_val, give_own, give_ali, take_val, take_own, take_ali, ta_nil, ta_cons, pk_val, pk_own, pk_ali, pa_nil', pa_cons', var_ap, lit_ap, op_ap, un_ap, cb_ap, lc_ap, ln_ap, tup_ap, lst_ap, cv_ap, ck_ap, cl_ap, and_ap, or_ap, not_ap, eif_ap, bval_ap, bnot_ap, band_ap, bor_ap, gnam_ap, gtup_ap, gend_ap, gcons_ap, rng_ap, for_ap, loop_nil, setIx_ap, run_ap, M.ret, unpk, asB, back, retS, fit_of, sInt, sBl, fIx, fLen, fAbs, fInt, fList, Mi.isNon, fIsN, fNotN, fCmp, fLt, fLe, fGt, fGe, fAdd, fSub, fNeg, O.frz, Mi.pick, List.getElem?_cons_zero, List.getElem?_cons_succ, List.getElem?_nil, List.set_cons_zero, List.set_cons_succ, List.map_cons, List.map_nil, List.length_cons, List.length_nil, List.replicate_succ, List.replicate_zero, List.cons_append, List.nil_append, Option.map_some, Option.map_none, if_true, if_false, Bool.false_eq_true, Bool.not_true, Bool.not_false, decide_true, decide_false, reduceIte, ne_eq, not_true_eq_false, not_false_eq_true, List.getD_cons_zero, List.getD_cons_succ, Nat.reduceAdd, Nat.reduceSub, Nat.reduceLeDiff, Nat.reduceEqDiff, atI_0, atI_1, atI_2, lam_ap, append_ap, make_ap, setF_ap, own_ap, meth_ap, methD_ap, norm_val, norm_own, norm_ali, onMethD_ap, onMeth_val, onMeth_ali, lz_ap, raise_ap, try_ap, thunk_raw, thunk_exc, byes_ap, Mi.insAt, lendTo, hand, eChain, Mi.isL, onL, okFl]
    rfl
  · have te : fEq (.tup [.int 0, .int 1]) (.tup [.int 0, .int 1]) = some (.val (.bl true)) := fEq_self (n := 1) (.tup fun x hx => by
      simp only [List.mem_cons, List.not_mem_nil, or_false] at hx
      rcases hx with rfl | rfl <;> exact .int _) (by decide)
    have tu : ∀ τ : List Mi.S, eTup (lCons (eLit (.int 0)) (lCons (eLit (.int 1)) lNil)) τ = .ok (.val (.tup [.int 0, .int 1]), τ) := fun τ => by simp only [bnd_ap, of_ap, seq_ap, asg_ap, ret_ap, retN_ap, sif_ap, expr_ap, par_ap, par3_ap, asgT_ap, nil_ap, brk_ap, cnt_ap, give_val, give_own, give_ali, take_val, take_own, take_ali, ta_nil, ta_cons, pk_val, pk_own, pk_ali, pa_nil', pa_cons', var_ap, lit_ap, op_ap, un_ap, cb_ap, lc_ap, ln_ap, tup_ap, lst_ap, cv_ap, ck_ap, cl_ap, and_ap, or_ap, not_ap, eif_ap, bval_ap, bnot_ap, band_ap, bor_ap, gnam_ap, gtup_ap, gend_ap, gcons_ap, rng_ap, for_ap, loop_nil, setIx_ap, run_ap, M.ret, unpk, asB, back, retS, fit_of, sInt, sBl, fIx, fLen, fAbs, fInt, fList, Mi.isNon, fIsN, fNotN, fCmp, fLt, fLe, fGt, fGe, fAdd, fSub, fNeg, O.frz, Mi.pick, List.getElem?_cons_zero, List.getElem?_cons_succ, List.getElem?_nil, List.set_cons_zero, List.set_cons_succ, List.map_cons, List.map_nil, List.length_cons, List.length_nil, List.replicate_succ, List.replicate_zero, List.cons_append, List.nil_append, Option.map_some, Option.map_none, if_true, if_false, Bool.false_eq_true, Bool.not_true, Bool.not_false, decide_true, decide_false, reduceIte, ne_eq, not_true_eq_false, not_false_eq_true, List.getD_cons_zero, List.getD_cons_succ, Nat.reduceAdd, Nat.reduceSub, Nat.reduceLeDiff, Nat.reduceEqDiff, atI_0, atI_1, atI_2, lam_ap, append_ap, make_ap, setF_ap, own_ap, meth_ap, methD_ap, norm_val, norm_own, norm_ali, onMethD_ap, onMeth_val, onMeth_ali, lz_ap, raise_ap, try_ap, thunk_raw, thunk_exc, byes_ap, Mi.insAt, lendTo, hand, eChain, Mi.isL, onL, okFl]
    exact op_v (f := fEq) (s2 := .val (.tup [.int 0, .int 1])) (call_v2 lit_v (un_v (s' := .val (.int (-5))) lit_v pk_v rfl) lowest_05) (tu _) pk_v pk_v te
end K01

namespace K01
open PySem PySem.Spec PyProof.Rows L2 Mi
/-! the head's run -/
def loose0 : List PySem.Str := ["SeenError", "BadNumber", "is_integer", "is_within", "is_name", "are_integers", "is_ratio", "is_primitive", "first_twice", "need_number", "need_numbers", "measure", "common_divisor", "primitive", "reduced", "lowest", "in_lowest", "_law_cup", "_law_dip", "_law_pick", "_law_integer", "_law_value", "_law_same", "_law_integers_right", "_law_names_right", "_law_divides", "_law_measure", "_law_divisors_right", "_law_ratios_right", "_law_twice_right"]
def loose1 : List PySem.Str := ["_law_part", "LONGEST", "LETTERS", "DIGITS"]
def loose : List PySem.Str := loose0 ++ loose1
abbrev Rr : PySem.W.OpenRow := PySem.W.OpenLaw.row PySem.Challenge.rw_farseen_k01_checks_of_any_value
abbrev hk : PySem.W.Hook := He.hookX 6 fa fn [] (tq.map (·.1)) fun K => (exs K).all id
def ob (s : PySem.W.SharedT) : He.AlX := He.obsX 6 fa fn [] (tq.map (·.1)) (fun K => (exs K).all id) (HandSHeadRun.getT s)
theorem ob_eq (s : PySem.W.SharedT) : ob s = hk.obs s.abs := He.obsX_eq (HandSHeadRun.getT_eq s)
theorem run (w : World) : HandSHeadRun.RunEq Rr (PySem.W.view Rr.prog [37]) hk ob 40000 loose w := by
  intro os
  kernel_rfl
end K01
open PySem PySem.W PySem.Calls PyProof.Rows
theorem PySem.Challenge.cw_farseen_k01_checks_of_any_value_holds : PySem.Challenge.rw_farseen_k01_checks_of_any_value.Holds := by
  w_on; o_law
  refine HandSHeadRun.head_any (r := OpenLaw.row PySem.Challenge.rw_farseen_k01_checks_of_any_value) (q := view (OpenLaw.row PySem.Challenge.rw_farseen_k01_checks_of_any_value).prog [37]) (H := K01.hk) (ob := K01.ob) (M := 40000) (loose := K01.loose) (d := HandSHeadRun.topDef (OpenLaw.row PySem.Challenge.rw_farseen_k01_checks_of_any_value).prog 37) (kwd := []) K01.ob_eq
    (by kernel_rfl) (fun s => by kernel_rfl) K01.run (by kernel_rfl) (by kernel_rfl) (by kernel_rfl) (by rfl) (by first | assumption | decide +kernel) (by decide +kernel) ⟨rfl, rfl, rfl, rfl, rfl, by decide +kernel⟩ ?hw ?hc
  case hw => w_witness2
  case hc =>
    exact Mi.law_walk (l := PySem.Challenge.rw_farseen_k01_checks_of_any_value) (n := 63) (k := 7) (x := "_law_script") (dl := K01.df29) (mf := K01.f_law) (nd := 6) 29 31 rfl (by decide) (by kernel_rfl) ⟨rfl, by decide, by decide⟩ rfl rfl rfl rfl rfl (fun _ _ _ _ _ _ us hl => match us, hl with | [_], _ => rfl) (fun w K mg base fd hd Fu => K01.o_law hd Fu) K01.law_true
