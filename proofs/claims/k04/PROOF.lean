import PyProof.Rows.All
import Wide.All
import OpenK.AllK
import Wide.FinOn
import PySem.Challenge.RW_farseen_k04_ratios_in_lowest_terms
import KE.KStateDown
import Lean
import HandS.ForMost
import HandS.ForExc
import HandS.ExcInit
import HandS.IsInst
import HandS.Lambda
import HandS.Wide
import HandS.CallSlots
import KE.KExcIs
import HandS.ExcIs
import HandS.Head0
import HandS.Head1
import HandS.Head2
import HandS.HeadEnd
import HandS.HeadHook1
import HandS.HeadHook2
import HandS.HeadHook3
import HandS.HeadHook4
import HandS.HeadWalk
import HandS.EndTab
import HandS.Style
set_option Elab.async false
set_option linter.all false
set_option maxRecDepth 100000
set_option maxHeartbeats 0
set_option exponentiation.threshold 4000
/-! ### M1: plain data, what stands for it in the abstract heap, the state of a body -/
namespace Mi
open PySem PySem.Spec PyProof.Rows L2

/-- plain data: what a value is worth, without addresses -/
inductive D where
  | non | bl (b : Bool) | int (i : Int) | str (x : Str)
  | lst (xs : List D) | tup (xs : List D) | dic (kvs : List (Key × D)) | scr (xs : List D)
  | ins (c : Str) (fs : List (Str × D)) | exc (c : Str) (fs : List (Str × D))
  | ty (n : String) | cls (c : Str) | fn (f : Str)
/-- what is ours alone and may change -/
inductive O where
  | lst (xs : List D) | ins (c : Str) (fs : List (Str × D))
/-- how a slot stands -/
inductive S where
  | non | val (d : D) | own (o : O) | lent (j : Nat) (o : O) | ali (i : Nat) | raw
/-- an outcome -/
inductive R (α : Type) where
  | ok (a : α) | exc (c : Str) (fs : List (Str × D)) (τ : List S) | stuck
abbrev M (α : Type) := List S → R (α × List S)

/-- what stands still through the whole law -/
structure Gx where
  K : PySem.W.Frag
  cls : Str → Option Addr
  fn : Str → Option Addr
  T : List (Addr × Str)

def Le (Φ H : Hp) : Prop := ∀ a o, Φ a = some o → H a = some o
theorem Le.refl (H : Hp) : Le H H := fun _ _ h => h
theorem Le.trans {A B C : Hp} (x : Le A B) (y : Le B C) : Le A C := fun a o h => y a o (x a o h)

/-- at a: an exception of the class at C that is not in flight, its own dict d -/
def exn (a C : Addr) (d : Option Addr) : HO := .ext fun h => ∃ (oe : Obj) (vs : Array Value), h.get? a = some oe ∧ oe.cls = .ref C ∧ oe.dict = d ∧ oe.data = .fields vs
mutual
/-- v stands for d, by what never changes -/
inductive Fz (G : Gx) (Φ : Hp) : V → D → Prop
  | non : Fz G Φ .non .non
  | bl (b : Bool) : Fz G Φ (.bl b) (.bl b)
  | int (i : Int) : Fz G Φ (.int i) (.int i)
  | str (x : Str) : Fz G Φ (.str x) (.str x)
  | ty (n : String) : Fz G Φ (.ty n) (.ty n)
  | lst {a : Addr} {vs : List V} {ds : List D} : Φ a = some (.lst vs) → FzL G Φ vs ds → Fz G Φ (.ref a) (.lst ds)
  | scr {a : Addr} {vs : List V} {ds : List D} : SqL G.K Φ a vs → FzL G Φ vs ds → Fz G Φ (.ref a) (.scr ds)
  | tup {a : Addr} {vs : List V} {ds : List D} : SqT G.K Φ a vs → FzL G Φ vs ds → Fz G Φ (.ref a) (.tup ds)
  | dic {a : Addr} {kvs : List (Key × V)} {ds : List (Key × D)} : Φ a = some (.dK kvs) → FzK G Φ kvs ds → Fz G Φ (.ref a) (.dic ds)
  | ins {a C dx : Addr} {c : Str} {fs : List (Str × V)} {ds : List (Str × D)} : Φ a = some (.ins C dx fs) → G.cls c = some C → FzF G Φ fs ds → Fz G Φ (.ref a) (.ins c ds)
  | exc0 {a C : Addr} {c : Str} : Φ a = some (exn a C none) → G.cls c = some C → Fz G Φ (.ref a) (.exc c [])
  | exc1 {a C dd : Addr} {c : Str} {fs : List (Str × V)} {ds : List (Str × D)} : Φ a = some (exn a C (some dd)) → G.cls c = some C → Φ dd = some (.xd fs) → FzF G Φ fs ds → Fz G Φ (.ref a) (.exc c ds)
  | cls {C : Addr} {c : Str} : G.cls c = some C → Fz G Φ (.ref C) (.cls c)
  | fn {a : Addr} {f : Str} : G.fn f = some a → Fz G Φ (.ref a) (.fn f)
inductive FzL (G : Gx) (Φ : Hp) : List V → List D → Prop
  | nil : FzL G Φ [] []
  | cons {v : V} {d : D} {vs : List V} {ds : List D} : Fz G Φ v d → FzL G Φ vs ds → FzL G Φ (v :: vs) (d :: ds)
inductive FzK (G : Gx) (Φ : Hp) : List (Key × V) → List (Key × D) → Prop
  | nil : FzK G Φ [] []
  | cons {k : Key} {v : V} {d : D} {vs : List (Key × V)} {ds : List (Key × D)} : Fz G Φ v d → FzK G Φ vs ds → FzK G Φ ((k, v) :: vs) ((k, d) :: ds)
inductive FzF (G : Gx) (Φ : Hp) : List (Str × V) → List (Str × D) → Prop
  | nil : FzF G Φ [] []
  | cons {f : Str} {v : V} {d : D} {vs : List (Str × V)} {ds : List (Str × D)} : Fz G Φ v d → FzF G Φ vs ds → FzF G Φ ((f, v) :: vs) ((f, d) :: ds)
end

section
variable {G : Gx} {Φ Φ' H H' : Hp}
theorem Rd.le {a : Addr} {u : HO} (h : Rd Φ a u) (l : Le Φ Φ') : Rd Φ' a u := by
  rcases h with h | ⟨o, h⟩
  · exact .inl (l _ _ h)
  · exact .inr ⟨o, l _ _ h⟩
theorem SqL.le {K : PySem.W.Frag} {a : Addr} {vs : List V} (h : SqL K Φ a vs) (l : Le Φ Φ') : SqL K Φ' a vs := h.elim (fun h => .inl (Rd.le h l)) .inr
theorem SqT.le {K : PySem.W.Frag} {a : Addr} {vs : List V} (h : SqT K Φ a vs) (l : Le Φ Φ') : SqT K Φ' a vs := h.elim (fun h => .inl (Rd.le h l)) .inr
mutual
theorem Fz.le (l : Le Φ Φ') {v : V} {d : D} : Fz G Φ v d → Fz G Φ' v d
  | .non => .non
  | .bl b => .bl b
  | .int i => .int i
  | .str x => .str x
  | .ty n => .ty n
  | .lst h t => .lst (l _ _ h) (FzL.le l t)
  | .scr h t => .scr (SqL.le h l) (FzL.le l t)
  | .tup h t => .tup (SqT.le h l) (FzL.le l t)
  | .dic h t => .dic (l _ _ h) (FzK.le l t)
  | .ins h c t => .ins (l _ _ h) c (FzF.le l t)
  | .exc0 h c => .exc0 (l _ _ h) c
  | .exc1 h c k t => .exc1 (l _ _ h) c (l _ _ k) (FzF.le l t)
  | .cls c => .cls c
  | .fn f => .fn f
theorem FzL.le (l : Le Φ Φ') {v : List V} {d : List D} : FzL G Φ v d → FzL G Φ' v d
  | .nil => .nil
  | .cons h t => .cons (Fz.le l h) (FzL.le l t)
theorem FzK.le (l : Le Φ Φ') {v : List (Key × V)} {d : List (Key × D)} : FzK G Φ v d → FzK G Φ' v d
  | .nil => .nil
  | .cons h t => .cons (Fz.le l h) (FzK.le l t)
theorem FzF.le (l : Le Φ Φ') {v : List (Str × V)} {d : List (Str × D)} : FzF G Φ v d → FzF G Φ' v d
  | .nil => .nil
  | .cons h t => .cons (Fz.le l h) (FzF.le l t)
end
theorem FzL.length {vs : List V} {ds : List D} : FzL G Φ vs ds → vs.length = ds.length
  | .nil => rfl
  | .cons _ t => by rw [List.length_cons, List.length_cons, FzL.length t]
theorem FzL.get : ∀ {vs : List V} {ds : List D} {i : Nat} {d : D}, FzL G Φ vs ds → ds[i]? = some d → ∃ v, vs[i]? = some v ∧ Fz G Φ v d
  | _, _, _, _, .nil, e => by simp at e
  | _, _, 0, _, .cons h _, e => by
    simp at e
    subst e
    exact ⟨_, rfl, h⟩
  | _, _, i + 1, _, .cons _ t, e => by
    obtain ⟨v, h1, h2⟩ := FzL.get (i := i) t (by simpa using e)
    exact ⟨v, by simpa using h1, h2⟩
theorem FzL.getV : ∀ {vs : List V} {ds : List D} {i : Nat} {v : V}, FzL G Φ vs ds → vs[i]? = some v → ∃ d, ds[i]? = some d ∧ Fz G Φ v d
  | _, _, _, _, .nil, e => by simp at e
  | _, _, 0, _, .cons h _, e => by
    simp at e
    subst e
    exact ⟨_, rfl, h⟩
  | _, _, i + 1, _, .cons _ t, e => by
    obtain ⟨d, h1, h2⟩ := FzL.getV (i := i) t (by simpa using e)
    exact ⟨d, by simpa using h1, h2⟩
theorem FzL.append : ∀ {vs ws : List V} {ds es : List D}, FzL G Φ vs ds → FzL G Φ ws es → FzL G Φ (vs ++ ws) (ds ++ es)
  | _, _, _, _, .nil, h => h
  | _, _, _, _, .cons h t, q => .cons h (FzL.append t q)
theorem FzL.set : ∀ {vs : List V} {ds : List D} {v : V} {d : D} (i : Nat), FzL G Φ vs ds → Fz G Φ v d → FzL G Φ (vs.set i v) (ds.set i d)
  | _, _, _, _, _, .nil, _ => .nil
  | _, _, _, _, 0, .cons _ t, q => .cons q t
  | _, _, _, _, i + 1, .cons h t, q => .cons h (FzL.set i t q)
theorem FzL.take : ∀ {vs : List V} {ds : List D} (n : Nat), FzL G Φ vs ds → FzL G Φ (vs.take n) (ds.take n)
  | _, _, 0, _ => .nil
  | _, _, _ + 1, .nil => .nil
  | _, _, n + 1, .cons h t => .cons h (FzL.take n t)
theorem FzL.drop : ∀ {vs : List V} {ds : List D} (n : Nat), FzL G Φ vs ds → FzL G Φ (vs.drop n) (ds.drop n)
  | _, _, 0, h => h
  | _, _, _ + 1, .nil => .nil
  | _, _, n + 1, .cons _ t => FzL.drop n t
theorem FzL.reverse : ∀ {vs : List V} {ds : List D}, FzL G Φ vs ds → FzL G Φ vs.reverse ds.reverse
  | _, _, .nil => .nil
  | _, _, .cons h t => by
    rw [List.reverse_cons, List.reverse_cons]
    exact FzL.append (FzL.reverse t) (.cons h .nil)
theorem FzF.look : ∀ {vs : List (Str × V)} {ds : List (Str × D)} {f : Str} {d : D}, FzF G Φ vs ds → ds.lookup f = some d → ∃ v, vs.lookup f = some v ∧ Fz G Φ v d
  | _, _, _, _, .nil, e => by simp at e
  | _, _, f, d, .cons (f := g) h t, e => by
    by_cases hf : (f == g) = true
    · rw [List.lookup_cons, hf] at e
      cases e
      exact ⟨_, by rw [List.lookup_cons, hf], h⟩
    · have hf' : (f == g) = false := by simpa using hf
      rw [List.lookup_cons, hf'] at e
      obtain ⟨v, h1, h2⟩ := FzF.look t e
      exact ⟨v, by rw [List.lookup_cons, hf']; exact h1, h2⟩
theorem FzF.look0 : ∀ {vs : List (Str × V)} {ds : List (Str × D)} {f : Str}, FzF G Φ vs ds → ds.lookup f = none → vs.lookup f = none
  | _, _, _, .nil, _ => by simp
  | _, _, f, .cons (f := g) h t, e => by
    by_cases hf : (f == g) = true
    · rw [List.lookup_cons, hf] at e
      cases e
    · have hf' : (f == g) = false := by simpa using hf
      rw [List.lookup_cons, hf'] at e
      rw [List.lookup_cons, hf']
      exact FzF.look0 t e
/-- a field stored -/
def putD (f : Str) (d : D) : List (Str × D) → List (Str × D)
  | [] => [(f, d)]
  | (g, e) :: r => if g = f then (g, d) :: r else (g, e) :: putD f d r
end

/-- v at a stands for what is ours -/
def Ow (G : Gx) (Φ H : Hp) (a : Addr) : O → Prop
  | .lst xs => ∃ vs, H a = some (.lst vs) ∧ FzL G Φ vs xs
  | .ins c fs => ∃ C dx vs, H a = some (.ins C dx vs) ∧ G.cls c = some C ∧ FzF G Φ vs fs
/-- what it is worth when nobody changes it any more -/
def O.frz : O → D
  | .lst xs => .lst xs
  | .ins c fs => .ins c fs

/-- a body's frame: the world and the abstract heap at its entry, what was lent to it -/
structure Fm where
  G : Gx
  Φ0 : Hp
  H0 : Hp
  P : Nat → Option Addr
  raw : Option Addr

abbrev Env1 := List (Option V × S)
def S.real : S → Prop
  | .non => False
  | .raw => False
  | .ali _ => False
  | _ => True
/-- one slot, one value in the air -/
def One (F : Fm) (Φ H : Hp) (σ : L2.St) (τ : List S) : Option V × S → Prop
  | (_, .non) => True
  | (v, .val d) => ∃ x, v = some x ∧ Fz F.G Φ x d
  | (v, .own o) => ∃ a, v = some (.ref a) ∧ Ow F.G Φ H a o ∧ Φ a = none ∧ F.H0 a = none
  | (v, .lent j o) => ∃ a, v = some (.ref a) ∧ Ow F.G Φ H a o ∧ Φ a = none ∧ F.P j = some a
  | (v, .ali i) => ∃ x s, v = some x ∧ σ[i]? = some (some x) ∧ τ[i]? = some s ∧ s.real
  | (v, .raw) => ∃ a, v = some (.ref a) ∧ F.raw = some a
def holds : Option V × S → Option Addr
  | (some (.ref a), .own _) => some a
  | (some (.ref a), .lent _ _) => some a
  | _ => none
/-- two that do not share what is ours -/
def Apart (p q : Option V × S) : Prop := ∀ a, holds p = some a → holds q ≠ some a
theorem Apart.symm {p q : Option V × S} (h : Apart p q) : Apart q p := fun a h1 h2 => h a h2 h1
def Subp {α : Type} (l m : List α) : Prop := ∃ k : List α, k.Perm l ∧ k.Sublist m
theorem Subp.of {α : Type} {l m : List α} (h : l.Sublist m) : Subp l m := ⟨l, .refl _, h⟩
theorem Subp.perm {α : Type} {l m : List α} (h : m.Perm l) : Subp l m := ⟨m, h, List.Sublist.refl _⟩
theorem Subp.cons' {α : Type} {l m : List α} {x : α} (h : Subp l m) : Subp l (x :: m) := by
  obtain ⟨k, p, q⟩ := h
  exact ⟨k, p, q.trans (List.sublist_cons_self _ _)⟩
theorem Subp.app' {α : Type} {l m k : List α} (h : Subp l m) : Subp l (k ++ m) := by
  obtain ⟨j, p, q⟩ := h
  exact ⟨j, p, q.trans (List.sublist_append_right _ _)⟩
def S.noali : S → Prop
  | .ali _ => False
  | _ => True
/-- no slot is another slot's name -/
def Flat (τ : List S) : Prop := ∀ s ∈ τ, s.noali
/-- slots, then what is in the air -/
abbrev both (σ : L2.St) (τ : List S) (tm : Env1) : Env1 := σ.zip τ ++ tm

/-- the tables of code objects, of which none is of the world -/
def TabsN (T : List (Addr × Str)) (Φ H : Hp) : Prop := LamX.Tabs T H ∧ ∀ b ps, Φ b ≠ some (.tbl ps)
structure Rl (F : Fm) (Φ H : Hp) (σ : L2.St) (τ : List S) (tm : Env1) : Prop where
  len : σ.length = τ.length
  fl : Flat τ
  le0 : Le F.Φ0 Φ
  le : Le Φ H
  pres : ∀ b o, F.H0 b = some o → (∀ j, F.P j ≠ some b) → (∀ ps, o ≠ .tbl ps) → H b = some o
  dom : ∀ b, H b = none → F.H0 b = none
  new : ∀ b o, Φ b = some o → F.Φ0 b = some o ∨ F.H0 b = none
  one : ∀ p ∈ both σ τ tm, One F Φ H σ τ p
  nd : (both σ τ tm).Pairwise Apart
  tabs : TabsN F.G.T Φ H

section
variable {F : Fm} {Φ Φ' H H' : Hp} {σ : L2.St} {τ : List S} {tm tm' : Env1}
theorem holds_some {p : Option V × S} {a : Addr} (h : holds p = some a) : p.1 = some (.ref a) ∧ ((∃ o, p.2 = .own o) ∨ ∃ j o, p.2 = .lent j o) := by
  obtain ⟨v, s⟩ := p
  cases s with
  | own o =>
    cases v with
    | none => cases h
    | some x =>
      cases x with
      | ref b => cases h; exact ⟨rfl, .inl ⟨o, rfl⟩⟩
      | _ => cases h
  | lent j o =>
    cases v with
    | none => cases h
    | some x =>
      cases x with
      | ref b => cases h; exact ⟨rfl, .inr ⟨j, o, rfl⟩⟩
      | _ => cases h
  | _ =>
    cases v with
    | none => cases h
    | some x => cases x <;> cases h
theorem Ow.there {G : Gx} {a : Addr} {o : O} (h : Ow G Φ H a o) : ∃ u, H a = some u ∧ (∀ ps, u ≠ .tbl ps) := by
  cases o with
  | lst xs => obtain ⟨vs, e, _⟩ := h; exact ⟨_, e, fun _ z => by cases z⟩
  | ins c fs => obtain ⟨C, dx, vs, e, _⟩ := h; exact ⟨_, e, fun _ z => by cases z⟩
theorem One.own {p : Option V × S} (h : One F Φ H σ τ p) {a : Addr} (e : holds p = some a) : Φ a = none ∧ ∃ o, Ow F.G Φ H a o := by
  obtain ⟨v, s⟩ := p
  obtain ⟨e1, e2⟩ := holds_some e
  simp only at e1 e2
  rcases e2 with ⟨o, rfl⟩ | ⟨j, o, rfl⟩
  · obtain ⟨b, e3, q1, q2, _⟩ := h
    rw [e1] at e3; cases e3
    exact ⟨q2, o, q1⟩
  · obtain ⟨b, e3, q1, q2, _⟩ := h
    rw [e1] at e3; cases e3
    exact ⟨q2, o, q1⟩
theorem Ow.step {G : Gx} {a : Addr} {o : O} (h : Ow G Φ H a o) (l : Le Φ Φ') (e : ∀ u, H a = some u → (∀ ps, u ≠ .tbl ps) → H' a = some u) : Ow G Φ' H' a o := by
  cases o with
  | lst xs =>
    obtain ⟨vs, e1, e2⟩ := h
    exact ⟨vs, e _ e1 (fun _ z => by cases z), FzL.le l e2⟩
  | ins c fs =>
    obtain ⟨C, dx, vs, e1, e2, e3⟩ := h
    exact ⟨C, dx, vs, e _ e1 (fun _ z => by cases z), e2, FzF.le l e3⟩
/-- all but tables kept -/
def Keep (H H' : Hp) : Prop := ∀ b o, H b = some o → (∀ ps, o ≠ .tbl ps) → H' b = some o
theorem Keep.of (h : ∀ b o, H b = some o → H' b = some o) : Keep H H' := fun b o e _ => h b o e
theorem keep_upd {p : Addr} {o : HO} (h : H p = none) : Keep H (upd H p o) := fun b u e _ => by
  rw [upd_ne (ne_of_none e h)]
  exact e
theorem le_upd {p : Addr} {o : HO} (h : H p = none) : Le H (upd H p o) := fun b u e => by
  rw [upd_ne (ne_of_none e h)]
  exact e
theorem One.step {p : Option V × S} (h : One F Φ H σ τ p) (l : Le Φ Φ') (k : ∀ a, holds p = some a → (∀ u, H a = some u → (∀ ps, u ≠ .tbl ps) → H' a = some u) ∧ Φ' a = none) : One F Φ' H' σ τ p := by
  obtain ⟨v, s⟩ := p
  cases s with
  | non => trivial
  | val d => obtain ⟨x, e, q⟩ := h; exact ⟨x, e, Fz.le l q⟩
  | own o =>
    obtain ⟨a, e, q1, q2, q3⟩ := h
    subst e
    obtain ⟨k1, k2⟩ := k a rfl
    exact ⟨a, rfl, q1.step l k1, k2, q3⟩
  | lent j o =>
    obtain ⟨a, e, q1, q2, q3⟩ := h
    subst e
    obtain ⟨k1, k2⟩ := k a rfl
    exact ⟨a, rfl, q1.step l k1, k2, q3⟩
  | ali i => exact h
  | raw => exact h
/-- the heap grows, the world grows by what is new -/
theorem Rl.grow (r : Rl F Φ H σ τ tm) (l : Le Φ Φ') (l' : Le Φ' H') (k : Keep H H') (n : ∀ b o, Φ' b = some o → Φ b = some o ∨ H b = none) (t : TabsN F.G.T Φ' H') (d : ∀ b, H' b = none → H b = none) : Rl F Φ' H' σ τ tm where
  len := r.len
  fl := r.fl
  le0 := r.le0.trans l
  le := l'
  pres := fun b o h1 h2 h3 => k _ _ (r.pres b o h1 h2 h3) h3
  dom := fun b h => r.dom b (d b h)
  new := fun b o h => by
    rcases n b o h with q | q
    · exact r.new b o q
    · exact .inr (r.dom b q)
  one := fun p hp => (r.one p hp).step l fun a ha => ⟨fun u e z => k _ _ e z, by
    obtain ⟨q1, o, q2⟩ := (r.one p hp).own ha
    obtain ⟨u, q3, _⟩ := q2.there
    cases e : Φ' a with
    | none => rfl
    | some w =>
      rcases n a w e with z | z
      · rw [q1] at z; cases z
      · rw [q3] at z; cases z⟩
  nd := r.nd
  tabs := t
theorem tabs_upd {T : List (Addr × Str)} {p : Addr} {o : HO} (t : LamX.Tabs T H) (h : H p = none) : LamX.Tabs T (upd H p o) := t.ext fun b u e => le_upd h b u e
theorem none_upd {p : Addr} {o : HO} : ∀ b, upd H p o b = none → H b = none := fun b h => by
  by_cases e : b = p
  · subst e; rw [upd_same] at h; cases h
  · rw [upd_ne e] at h; exact h
/-- a new object beside the world -/
theorem Rl.beside (r : Rl F Φ H σ τ tm) {p : Addr} {o : HO} (h : H p = none) : Rl F Φ (upd H p o) σ τ tm :=
  r.grow (Le.refl _) (r.le.trans (le_upd h)) (keep_upd h) (fun _ _ e => .inl e) ⟨tabs_upd r.tabs.1 h, r.tabs.2⟩ none_upd
theorem Rl.fre (r : Rl F Φ H σ τ tm) {p : Addr} (h : H p = none) : Φ p = none := by
  cases e : Φ p with
  | none => rfl
  | some o => rw [r.le _ _ e] at h; cases h
/-- a new object of the world -/
theorem Rl.within (r : Rl F Φ H σ τ tm) {p : Addr} {o : HO} (h : H p = none) (ho : ∀ ps, o ≠ .tbl ps := by intro ps h; cases h) : Rl F (upd Φ p o) (upd H p o) σ τ tm := by
  refine r.grow (le_upd (r.fre h)) (fun a u e => ?_) (keep_upd h) (fun b u e => ?_) ⟨tabs_upd r.tabs.1 h, fun b ps e => ?_⟩ none_upd
  · by_cases q : a = p
    · subst q; rw [upd_same] at e ⊢; exact e
    · rw [upd_ne q] at e ⊢; exact r.le _ _ e
  · by_cases q : b = p
    · subst q; exact .inr h
    · rw [upd_ne q] at e; exact .inl e
  · by_cases q : b = p
    · subst q; rw [upd_same] at e; exact ho ps (Option.some.inj e)
    · rw [upd_ne q] at e; exact r.tabs.2 b ps e
/-- what is in the air, otherwise arranged or less -/
theorem Rl.air (r : Rl F Φ H σ τ tm) (s : Subp tm' tm) : Rl F Φ H σ τ tm' := by
  have s2 : Subp (both σ τ tm') (both σ τ tm) := by
    obtain ⟨l, p, q⟩ := s
    exact ⟨σ.zip τ ++ l, p.append_left _, q.append_left _⟩
  obtain ⟨l, p, q⟩ := s2
  exact ⟨r.len, r.fl, r.le0, r.le, r.pres, r.dom, r.new, fun x hx => r.one x (q.subset (p.mem_iff.mpr hx)), (p.pairwise_iff (fun h => Apart.symm h)).mp (r.nd.sublist q), r.tabs⟩
theorem Rl.none' (r : Rl F Φ H σ τ tm) : Rl F Φ H σ τ [] := r.air (.of (List.nil_sublist _))
theorem Rl.tl {p : Option V × S} (r : Rl F Φ H σ τ (p :: tm)) : Rl F Φ H σ τ tm := r.air (.of (List.sublist_cons_self _ _))
theorem Rl.hd {p : Option V × S} (r : Rl F Φ H σ τ (p :: tm)) : One F Φ H σ τ p := r.one p (List.mem_append_right _ List.mem_cons_self)
/-- more in the air -/
theorem Rl.put (r : Rl F Φ H σ τ tm) {p : Option V × S} (h : One F Φ H σ τ p) (n : ∀ q ∈ both σ τ tm, Apart p q) : Rl F Φ H σ τ (p :: tm) := by
  have pm : (both σ τ (p :: tm)).Perm (p :: both σ τ tm) := List.perm_middle
  refine ⟨r.len, r.fl, r.le0, r.le, r.pres, r.dom, r.new, fun q hq => ?_, (pm.pairwise_iff fun h => Apart.symm h).mpr (List.pairwise_cons.mpr ⟨n, r.nd⟩), r.tabs⟩
  rcases List.mem_cons.mp (pm.mem_iff.mp hq) with e | hq
  · rw [e]; exact h
  · exact r.one q hq
theorem apart_none {p q : Option V × S} (h : holds p = none) : Apart p q := fun a e => by rw [h] at e; cases e
theorem holds_val {v : Option V} {d : D} : holds (v, .val d) = none := by cases v with
  | none => rfl
  | some x => cases x <;> rfl
theorem holds_ali {v : Option V} {i : Nat} : holds (v, .ali i) = none := by cases v with
  | none => rfl
  | some x => cases x <;> rfl
theorem holds_non {v : Option V} : holds (v, .non) = none := by cases v with
  | none => rfl
  | some x => cases x <;> rfl
theorem Rl.val (r : Rl F Φ H σ τ tm) {v : V} {d : D} (h : Fz F.G Φ v d) : Rl F Φ H σ τ ((some v, .val d) :: tm) := r.put (p := (some v, .val d)) ⟨v, rfl, h⟩ fun _ _ => apart_none holds_val
/-- a new list of ours -/
theorem Rl.mine (r : Rl F Φ H σ τ tm) {p : Addr} {vs : List V} {ds : List D} (h : H p = none) (q : FzL F.G Φ vs ds) : Rl F Φ (upd H p (.lst vs)) σ τ ((some (.ref p), .own (.lst ds)) :: tm) := by
  refine (r.beside h).put (p := (some (.ref p), .own (.lst ds))) ⟨p, rfl, ⟨vs, upd_same, q⟩, r.fre h, r.dom _ h⟩ fun e he a ha hq => ?_
  cases ha
  obtain ⟨_, o, q2⟩ := (r.one e he).own hq
  obtain ⟨u, q3, _⟩ := q2.there
  rw [h] at q3; cases q3
/-- a new tuple of the world -/
theorem Rl.tuple (r : Rl F Φ H σ τ tm) {p : Addr} {vs : List V} {ds : List D} (h : H p = none) (q : FzL F.G Φ vs ds) : Rl F (upd Φ p (.tup vs)) (upd H p (.tup vs)) σ τ ((some (.ref p), .val (.tup ds)) :: tm) :=
  (r.within h).val (.tup (.inl (.inl upd_same)) (FzL.le (le_upd (r.fre h)) q))

theorem zip_set {α β : Type} : ∀ {l : List α} {m : List β} {i : Nat} {x : α} {y : β}, (l.set i x).zip (m.set i y) = (l.zip m).set i (x, y)
  | [], _, _, _, _ => by simp
  | _ :: _, [], _, _, _ => by simp
  | _ :: _, _ :: _, 0, _, _ => rfl
  | a :: l, b :: m, i + 1, x, y => by
    show (a, b) :: (l.set i x).zip (m.set i y) = (a, b) :: (l.zip m).set i (x, y)
    rw [zip_set]
theorem pw_set {α : Type} {Rr : α → α → Prop} (sy : ∀ {a b}, Rr a b → Rr b a) {p : α} : ∀ {l : List α} {i : Nat}, (p :: l).Pairwise Rr → (l.set i p).Pairwise Rr
  | [], _, _ => List.Pairwise.nil
  | q :: l, 0, h => by
    obtain ⟨h1, h2⟩ := List.pairwise_cons.mp h
    exact List.pairwise_cons.mpr ⟨fun x hx => h1 x (List.mem_cons_of_mem _ hx), (List.pairwise_cons.mp h2).2⟩
  | q :: l, i + 1, h => by
    obtain ⟨h1, h2⟩ := List.pairwise_cons.mp h
    obtain ⟨h3, h4⟩ := List.pairwise_cons.mp h2
    refine List.pairwise_cons.mpr ⟨fun x hx => ?_, pw_set sy (List.pairwise_cons.mpr ⟨fun x hx => h1 x (List.mem_cons_of_mem _ hx), h4⟩)⟩
    rcases List.mem_or_eq_of_mem_set hx with e | e
    · exact h3 x e
    · rw [e]; exact sy (h1 q List.mem_cons_self)
theorem One.slots {σ' : L2.St} {τ' : List S} {p : Option V × S} (h : One F Φ H σ τ p) (n : p.2.noali) : One F Φ H σ' τ' p := by
  obtain ⟨v, s⟩ := p
  cases s with
  | ali i => exact n.elim
  | _ => exact h
theorem Flat.set (fl : Flat τ) {s : S} (n : s.noali) (i : Nat) : Flat (τ.set i s) := fun x hx => by
  rcases List.mem_or_eq_of_mem_set hx with e | e
  · exact fl x e
  · rw [e]; exact n
/-- a slot takes what is in the air -/
theorem Rl.store {v : V} {s : S} (r : Rl F Φ H σ τ ((some v, s) :: tm)) (n : s.noali) (nt : ∀ p ∈ tm, p.2.noali) (i : Nat) : Rl F Φ H (σ.set i (some v)) (τ.set i s) tm := by
  have pm : (both σ τ ((some v, s) :: tm)).Perm ((some v, s) :: (σ.zip τ ++ tm)) := List.perm_middle
  have pw := (pm.pairwise_iff fun h => Apart.symm h).mp r.nd
  have sz : both (σ.set i (some v)) (τ.set i s) tm = (σ.zip τ).set i (some v, s) ++ tm := by rw [both, zip_set]
  refine ⟨by rw [List.length_set, List.length_set, r.len], r.fl.set n i, r.le0, r.le, r.pres, r.dom, r.new, fun p hp => ?_, ?_, r.tabs⟩
  · rw [sz] at hp
    rcases List.mem_append.mp hp with hp | hp
    · rcases List.mem_or_eq_of_mem_set hp with e | e
      · exact (r.one p (List.mem_append_left _ e)).slots (r.fl _ (List.of_mem_zip e).2)
      · rw [e]
        exact (r.hd).slots n
    · exact (r.tl.one p (List.mem_append_right _ hp)).slots (nt p hp)
  · rw [sz]
    by_cases hi : i < (σ.zip τ).length
    · have e : (σ.zip τ).set i (some v, s) ++ tm = (σ.zip τ ++ tm).set i (some v, s) := (List.set_append_left _ _ hi).symm
      rw [e]
      exact pw_set (fun h => Apart.symm h) pw
    · rw [List.set_eq_of_length_le (by omega)]
      exact (List.pairwise_cons.mp pw).2
/-- the slot i and what it holds -/
theorem Rl.at (r : Rl F Φ H σ τ tm) {i : Nat} {s : S} (h : τ[i]? = some s) : ∃ v, σ[i]? = some v ∧ (v, s) ∈ σ.zip τ ∧ One F Φ H σ τ (v, s) := by
  have hi : i < τ.length := (List.getElem?_eq_some_iff.mp h).1
  have hs : i < σ.length := by rw [r.len]; exact hi
  have e : (σ.zip τ)[i]? = some (σ[i], s) := by
    rw [List.getElem?_zip_eq_some]
    exact ⟨List.getElem?_eq_getElem hs, h⟩
  have m := List.mem_of_getElem? e
  exact ⟨σ[i], List.getElem?_eq_getElem hs, m, r.one _ (List.mem_append_left _ m)⟩
end
end Mi

/-! ### M2: mirrored code and what it says of the code: expressions -/
namespace Mi
open PySem PySem.Spec PyProof.Rows L2

abbrev M.ret {α : Type} (a : α) : M α := fun τ => .ok (a, τ)
def M.bnd {α β : Type} (m : M α) (f : α → M β) : M β := fun τ => match m τ with
  | .ok (a, τ') => f a τ'
  | .exc c fs τ' => .exc c fs τ'
  | .stuck => .stuck
def M.of {α : Type} (o : Option α) : M α := fun τ => match o with
  | some a => .ok (a, τ)
  | none => .stuck

/-- an exception as it lies: its class, its own dict -/
def ExR (F : Fm) (Φ H : Hp) (cls : Value) (d : Option Addr) (c : Str) (fs : List (Str × D)) : Prop :=
  ∃ C, F.G.cls c = some C ∧ cls = .ref C ∧ ((d = none ∧ fs = []) ∨ ∃ dd vs, d = some dd ∧ Φ dd = some (.xd vs) ∧ FzF F.G Φ vs fs)
/-- what an outcome asks -/
def Wp {α : Type} (F : Fm) (W : WX) (tm : Env1) (r : R (α × List S)) (K : α → List S → Prop) : Prop := match r with
  | .ok (a, τ) => K a τ
  | .exc c fs τ => ∀ cls d σ H Φ, Rl F Φ H σ τ tm → ExR F Φ H cls d c fs → W cls d σ H
  | .stuck => False
theorem bnd_ok {α β : Type} {m : M α} {f : α → M β} {τ : List S} {r : β × List S} (h : M.bnd m f τ = .ok r) : ∃ a τ1, m τ = .ok (a, τ1) ∧ f a τ1 = .ok r := by
  unfold M.bnd at h
  cases e : m τ with
  | ok p => rw [e] at h; exact ⟨p.1, p.2, rfl, h⟩
  | exc c fs t => rw [e] at h; cases h
  | stuck => rw [e] at h; cases h
theorem ok_bnd {α β : Type} {m : M α} {f : α → M β} {τ τ1 : List S} {a : α} (h : m τ = .ok (a, τ1)) : M.bnd m f τ = f a τ1 := by
  unfold M.bnd
  rw [h]
section
variable {F : Fm} {W : WX} {tm tm' : Env1} {α β : Type}
theorem Wp.bnd {m : M α} {f : α → M β} {τ : List S} {K : β → List S → Prop} (h : Wp F W tm (M.bnd m f τ) K) : Wp F W tm (m τ) fun a τ' => Wp F W tm (f a τ') K := by
  unfold M.bnd at h
  unfold Wp at h ⊢
  split <;> rename_i e
  · rw [e] at h
    exact h
  · rw [e] at h
    exact h
  · rw [e] at h
    exact h
theorem Wp.mono {r : R (α × List S)} {K K' : α → List S → Prop} (h : Wp F W tm r K) (k : ∀ a τ, K a τ → K' a τ) : Wp F W tm r K' := by
  cases r with
  | ok p => exact k _ _ h
  | exc c fs t => exact h
  | stuck => exact h
theorem Wp.air {r : R (α × List S)} {K : α → List S → Prop} (h : Wp F W tm r K) (s : Subp tm tm') : Wp F W tm' r K := by
  cases r with
  | ok p => exact h
  | exc c fs t => exact fun cls d σ H Φ r x => h cls d σ H Φ (r.air s) x
  | stuck => exact h
theorem Wp.of {o : Option α} {τ : List S} {K : α → List S → Prop} (h : Wp F W tm (M.of o τ) K) : ∃ a, o = some a ∧ K a τ := by
  cases o with
  | none => exact h.elim
  | some a => exact ⟨a, rfl, h⟩
end

/-- what mirrored expressions, tests, argument lists ask -/
def TEm (F : Fm) (W : WX) (m : M S) : L2.TE := fun σ H Q => ∃ Φ τ tm, Rl F Φ H σ τ tm ∧ Wp F W tm (m τ) fun s τ' => ∀ v H' Φ', Rl F Φ' H' σ τ' ((some v, s) :: tm) → Q v H'
def TBm (F : Fm) (W : WX) (m : M Bool) : L2.TT := fun σ H Q => ∃ Φ τ tm, Rl F Φ H σ τ tm ∧ Wp F W tm (m τ) fun b τ' => ∀ H' Φ', Rl F Φ' H' σ τ' tm → Q b H'
def TLm (F : Fm) (W : WX) (m : M (List S)) : L2.TA := fun σ H Q => ∃ Φ τ tm, Rl F Φ H σ τ tm ∧ Wp F W tm (m τ) fun ss τ' => ∀ vs H' Φ', vs.length = ss.length → Rl F Φ' H' σ τ' ((vs.map some).zip ss ++ tm) → Q vs H'
/-- the context fits the frame -/
structure Fits (X : Cx) (F : Fm) (W : WX) : Prop where
  calm : X.calm = true
  nd : X.N.Nodup
  K : X.K = F.G.K
  tk : Takes X W
  own : PassesOwn (model X.prog X.w) X.A X.env X.xe
abbrev EM (X : Cx) (F : Fm) (W : WX) (e : Expr) (m : M S) : Prop := PE X e (TEm F W m)
abbrev BM (X : Cx) (F : Fm) (W : WX) (e : Expr) (m : M Bool) : Prop := PT X e (TBm F W m)
abbrev WM (X : Cx) (F : Fm) (W : WX) (e : Expr) (m : M Bool) : Prop := PW X e (TBm F W m)
abbrev LM (X : Cx) (F : Fm) (W : WX) (es : List Expr) (m : M (List S)) : Prop := PA X es (TLm F W m)

theorem PE.imp {X : Cx} {e : Expr} {t t' : L2.TE} (h : PE X e t) (i : ∀ σ H Q, t' σ H Q → t σ H Q) : PE X e t' := ⟨fun pins s σ H Q I q => h.run pins s σ H Q I (i _ _ _ q)⟩
theorem PT.imp {X : Cx} {e : Expr} {t t' : L2.TT} (h : PT X e t) (i : ∀ σ H Q, t' σ H Q → t σ H Q) : PT X e t' := ⟨fun pins s σ H Q I q => h.run pins s σ H Q I (i _ _ _ q)⟩
theorem PW.imp {X : Cx} {e : Expr} {t t' : L2.TT} (h : PW X e t) (i : ∀ σ H Q, t' σ H Q → t σ H Q) : PW X e t' := ⟨fun wh pins s σ H Q I q => h.run wh pins s σ H Q I (i _ _ _ q)⟩
theorem PA.imp {X : Cx} {e : List Expr} {t t' : L2.TA} (h : PA X e t) (i : ∀ σ H Q, t' σ H Q → t σ H Q) : PA X e t' := ⟨fun pos pins s σ H Q I q => h.run pos pins s σ H Q I (i _ _ _ q)⟩
theorem PS.imp {X : Cx} {e : Stmt} {t t' : L2.TS} (h : PS X e t) (i : ∀ D σ H, t' D σ H → t D σ H) : PS X e t' := ⟨fun pins s σ H D I q => h.run pins s σ H D I (i _ _ _ q)⟩
theorem PSs.imp {X : Cx} {e : List Stmt} {t t' : L2.TS} (h : PSs X e t) (i : ∀ D σ H, t' D σ H → t D σ H) : PSs X e t' := ⟨fun pins s σ H D I q => h.run pins s σ H D I (i _ _ _ q)⟩

/-! ### reading without taking -/
/-- v reads as d -/
def Rdv (F : Fm) (Φ H : Hp) (v : V) (d : D) : Prop := Fz F.G Φ v d ∨ ∃ a o, v = .ref a ∧ d = O.frz o ∧ Ow F.G Φ H a o
def peekS (τ : List S) : S → Option D
  | .val d => some d
  | .own o => some o.frz
  | .ali i => match τ[i]? with
    | some (.val d) => some d
    | some (.own o) => some o.frz
    | some (.lent _ o) => some o.frz
    | _ => none
  | _ => none
def peek (s : S) : M D := fun τ => match peekS τ s with
  | some d => .ok (d, τ)
  | none => .stuck
section
variable {F : Fm} {W : WX} {Φ Φ' H H' : Hp} {σ : L2.St} {τ : List S} {tm : Env1}
theorem Rl.peek (r : Rl F Φ H σ τ tm) {v : V} {s : S} {d : D} (h : One F Φ H σ τ (some v, s)) (e : peekS τ s = some d) : Rdv F Φ H v d := by
  cases s with
  | raw => cases e
  | non => cases e
  | val d' =>
    cases e
    obtain ⟨x, e1, q⟩ := h
    cases e1
    exact .inl q
  | own o =>
    cases e
    obtain ⟨a, e1, q, _⟩ := h
    cases e1
    exact .inr ⟨a, o, rfl, rfl, q⟩
  | lent j o => cases e
  | ali i =>
    obtain ⟨x, s', e1, e2, e3, _⟩ := h
    cases e1
    simp only [peekS, e3] at e
    obtain ⟨w, e4, _, q⟩ := r.at e3
    rw [e2] at e4
    cases e4
    cases s' with
    | raw => cases e
    | non => cases e
    | val d' =>
      cases e
      obtain ⟨y, e5, q⟩ := q
      cases e5
      exact .inl q
    | own o =>
      cases e
      obtain ⟨a, e5, q, _⟩ := q
      cases e5
      exact .inr ⟨a, o, rfl, rfl, q⟩
    | lent j o =>
      cases e
      obtain ⟨a, e5, q, _⟩ := q
      cases e5
      exact .inr ⟨a, o, rfl, rfl, q⟩
    | ali k => cases e
theorem Wp.peek {s : S} {K : D → List S → Prop} (h : Wp F W tm (peek s τ) K) : ∃ d, peekS τ s = some d ∧ K d τ := by
  unfold Mi.peek at h
  cases e : peekS τ s with
  | none => rw [e] at h; exact h.elim
  | some d => rw [e] at h; exact ⟨d, rfl, h⟩
/-- plain ones -/
theorem Rdv.int {v : V} {i : Int} (h : Rdv F Φ H v (.int i)) : v = .int i := by
  rcases h with h | ⟨a, o, _, e, _⟩
  · cases h; rfl
  · cases o <;> cases e
theorem Rdv.bl {v : V} {i : Bool} (h : Rdv F Φ H v (.bl i)) : v = .bl i := by
  rcases h with h | ⟨a, o, _, e, _⟩
  · cases h; rfl
  · cases o <;> cases e
theorem Rdv.str {v : V} {i : Str} (h : Rdv F Φ H v (.str i)) : v = .str i := by
  rcases h with h | ⟨a, o, _, e, _⟩
  · cases h; rfl
  · cases o <;> cases e
theorem Rdv.non {v : V} (h : Rdv F Φ H v .non) : v = .non := by
  rcases h with h | ⟨a, o, _, e, _⟩
  · cases h; rfl
  · cases o <;> cases e
theorem Rdv.lst (l : Le Φ H) {v : V} {xs : List D} (h : Rdv F Φ H v (.lst xs)) : ∃ a vs, v = .ref a ∧ H a = some (.lst vs) ∧ FzL F.G Φ vs xs := by
  rcases h with h | ⟨a, o, e1, e, q⟩
  · cases h with
    | lst h t => exact ⟨_, _, rfl, l _ _ h, t⟩
  · cases o with
    | lst ys =>
      cases e
      obtain ⟨vs, q1, q2⟩ := q
      exact ⟨a, vs, e1, q1, q2⟩
    | ins c fs => cases e
theorem Rdv.scr (l : Le Φ H) {v : V} {xs : List D} (h : Rdv F Φ H v (.scr xs)) : ∃ a vs, v = .ref a ∧ SqL F.G.K H a vs ∧ FzL F.G Φ vs xs := by
  rcases h with h | ⟨a, o, _, e, _⟩
  · cases h with
    | scr h t => exact ⟨_, _, rfl, SqL.le h l, t⟩
  · cases o <;> cases e
theorem Rdv.tup (l : Le Φ H) {v : V} {xs : List D} (h : Rdv F Φ H v (.tup xs)) : ∃ a vs, v = .ref a ∧ SqT F.G.K H a vs ∧ FzL F.G Φ vs xs := by
  rcases h with h | ⟨a, o, _, e, _⟩
  · cases h with
    | tup h t => exact ⟨_, _, rfl, SqT.le h l, t⟩
  · cases o <;> cases e
theorem Rdv.ins (l : Le Φ H) {v : V} {c : Str} {fs : List (Str × D)} (h : Rdv F Φ H v (.ins c fs)) : ∃ a C dx vs, v = .ref a ∧ H a = some (.ins C dx vs) ∧ F.G.cls c = some C ∧ FzF F.G Φ vs fs := by
  rcases h with h | ⟨a, o, e1, e, q⟩
  · cases h with
    | ins h c t => exact ⟨_, _, _, _, rfl, l _ _ h, c, t⟩
  · cases o with
    | lst ys => cases e
    | ins c' fs' =>
      cases e
      obtain ⟨C, dx, vs, q1, q2, q3⟩ := q
      exact ⟨a, C, dx, vs, e1, q1, q2, q3⟩
end

/-! ### taking -/
/-- a value that anyone may keep: what is ours is ours no more -/
def take (s : S) : M D := fun τ => match s with
  | .val d => .ok (d, τ)
  | .own o => .ok (o.frz, τ)
  | .ali i => match τ[i]? with
    | some (.val d) => .ok (d, τ)
    | some (.own o) => .ok (o.frz, τ.set i (.val o.frz))
    | _ => .stuck
  | _ => .stuck
def takeAll : List S → M (List D)
  | [] => M.ret []
  | s :: ss => M.bnd (take s) fun d => M.bnd (takeAll ss) fun ds => M.ret (d :: ds)
section
variable {F : Fm} {W : WX} {Φ Φ' H H' : Hp} {σ : L2.St} {τ τ' : List S} {tm : Env1}
/-- what is ours alone joins the world -/
theorem Ow.fz {G : Gx} {a : Addr} {o : O} (h : Ow G Φ H a o) (l : Le Φ Φ') (e : Φ' a = H a) : Fz G Φ' (.ref a) o.frz := by
  cases o with
  | lst xs =>
    obtain ⟨vs, q1, q2⟩ := h
    exact .lst (e.trans q1) (FzL.le l q2)
  | ins c fs =>
    obtain ⟨C, dx, vs, q1, q2, q3⟩ := h
    exact .ins (e.trans q1) q2 (FzF.le l q3)
/-- the world with a -/
def with1 (Φ H : Hp) (a : Addr) : Hp := fun b => if b = a then H b else Φ b
theorem with1_at {a : Addr} : with1 Φ H a a = H a := if_pos rfl
theorem with1_ne {a b : Addr} (h : b ≠ a) : with1 Φ H a b = Φ b := if_neg h
theorem with1_le {a : Addr} (h : Φ a = none) : Le Φ (with1 Φ H a) := fun b o e => by
  rw [with1_ne]
  · exact e
  · intro q; rw [q, h] at e; cases e
/-- everything but p stands when p joins the world -/
theorem One.join {a : Addr} {p : Option V × S} (hp : One F Φ H σ τ p) (h : Φ a = none) (ap : holds p ≠ some a) : One F (with1 Φ H a) H σ τ p :=
  hp.step (with1_le h) fun b hb => ⟨fun u e _ => e, by
    rw [with1_ne (fun q => ap (by rw [← q]; exact hb))]
    exact (hp.own hb).1⟩
theorem join_le {a : Addr} (l : Le Φ H) : Le (with1 Φ H a) H := fun b o e => by
  by_cases q : b = a
  · subst q; rw [with1_at] at e; exact e
  · rw [with1_ne q] at e; exact l _ _ e
theorem with1_tabs {T : List (Addr × Str)} {G : Gx} {a : Addr} {o : O} (t : TabsN T Φ H) (w : Ow G Φ H a o) : TabsN T (with1 Φ H a) H := ⟨t.1, fun b ps e => by
  by_cases q : b = a
  · subst q
    rw [with1_at] at e
    obtain ⟨u, e1, e2⟩ := w.there
    rw [e1] at e
    exact e2 ps (Option.some.inj e)
  · rw [with1_ne q] at e; exact t.2 b ps e⟩
theorem Rl.taken (r : Rl F Φ H σ τ ((some v, s) :: tm)) {d : D} (e : take s τ = .ok (d, τ')) : ∃ Φ', Rl F Φ' H σ τ' ((some v, .val d) :: tm) := by
  cases s with
  | raw => cases e
  | non => cases e
  | val d' =>
    cases e
    exact ⟨Φ, r⟩
  | lent j o => cases e
  | own o =>
    cases e
    obtain ⟨a, e1, q1, q2, q3⟩ := r.hd
    cases e1
    refine ⟨with1 Φ H a, ?_⟩
    have pm : (both σ τ ((some (.ref a), .own o) :: tm)).Perm ((some (.ref a), .own o) :: both σ τ tm) := List.perm_middle
    obtain ⟨n1, n2⟩ := List.pairwise_cons.mp ((pm.pairwise_iff fun h => Apart.symm h).mp r.nd)
    have base : Rl F (with1 Φ H a) H σ τ tm := ⟨r.len, r.fl, r.le0.trans (with1_le q2), join_le r.le, r.pres, r.dom, fun b o h => by
      by_cases q : b = a
      · subst q; exact .inr q3
      · rw [with1_ne q] at h; exact r.new b o h, fun p hp => (r.one p (pm.mem_iff.mpr (List.mem_cons_of_mem _ hp))).join q2 (n1 p hp a rfl), n2, with1_tabs r.tabs q1⟩
    exact base.val (q1.fz (with1_le q2) with1_at)
  | ali i =>
    obtain ⟨x, s', e1, e2, e3, _⟩ := r.hd
    cases e1
    unfold take at e
    simp only [e3] at e
    obtain ⟨w, e4, em, q⟩ := r.at e3
    rw [e2] at e4
    cases e4
    cases s' with
    | raw => cases e
    | non => cases e
    | lent j o => cases e
    | ali k => cases e
    | val d' =>
      cases e
      obtain ⟨y, e5, q⟩ := q
      cases e5
      exact ⟨Φ, r.tl.val q⟩
    | own o =>
      cases e
      obtain ⟨a, e5, q1, q2, q3⟩ := q
      cases e5
      refine ⟨with1 Φ H a, ?_⟩
      -- the slot, changed
      have hi : i < τ.length := (List.getElem?_eq_some_iff.mp e3).1
      have hs : σ.set i (some (V.ref a)) = σ := by
        apply List.ext_getElem?
        intro j
        by_cases hj : i = j
        · subst hj
          rw [List.getElem?_set_self (by rw [r.len]; exact hi)]
          exact e2.symm
        · rw [List.getElem?_set_ne hj]
      have hz : σ.zip (τ.set i (.val o.frz)) = (σ.zip τ).set i (some (.ref a), .val o.frz) := by
        rw [← zip_set, hs]
      have rt := r.tl
      have ix : (σ.zip τ)[i]? = some (some (.ref a), .own o) := by
        rw [List.getElem?_zip_eq_some]
        exact ⟨e2, e3⟩
      have hit : i < (σ.zip τ).length := (List.getElem?_eq_some_iff.mp ix).1
      -- all others are apart from it
      have ap : ∀ (j : Nat) p, (both σ τ tm)[j]? = some p → j ≠ i → holds p ≠ some a := fun j p hj ne => by
        have pw := List.pairwise_iff_getElem.mp rt.nd
        have ei : (both σ τ tm)[i]? = some (some (.ref a), .own o) := by
          rw [List.getElem?_append_left hit]; exact ix
        obtain ⟨li, gi⟩ := List.getElem?_eq_some_iff.mp ei
        obtain ⟨lj, gj⟩ := List.getElem?_eq_some_iff.mp hj
        intro hp
        rcases Nat.lt_or_gt_of_ne ne with l | l
        · have := pw j i lj li l
          rw [gi, gj] at this
          exact this a hp rfl
        · have := pw i j li lj l
          rw [gi, gj] at this
          exact this a rfl hp
      have sz : both σ (τ.set i (.val o.frz)) tm = (both σ τ tm).set i (some (.ref a), .val o.frz) := by
        show σ.zip (τ.set i (.val o.frz)) ++ tm = (σ.zip τ ++ tm).set i _
        rw [hz, List.set_append_left _ _ hit]
      have vfz : Fz F.G (with1 Φ H a) (.ref a) o.frz := q1.fz (with1_le q2) with1_at
      have ones : ∀ p ∈ both σ (τ.set i (.val o.frz)) tm, One F (with1 Φ H a) H σ (τ.set i (.val o.frz)) p := fun p hp => by
        rw [sz] at hp
        obtain ⟨j, lj, gj⟩ := List.getElem_of_mem hp
        rw [List.length_set] at lj
        by_cases hj : i = j
        · subst hj
          rw [List.getElem_set_self] at gj
          rw [← gj]
          exact ⟨_, rfl, vfz⟩
        · rw [List.getElem_set_ne hj] at gj
          have gj' : (both σ τ tm)[j]? = some p := by rw [List.getElem?_eq_getElem lj, gj]
          have o1 := (rt.one p (by rw [← gj]; exact List.getElem_mem _)).join (a := a) q2 (ap j p gj' (Ne.symm hj))
          obtain ⟨pv, ps⟩ := p
          cases ps with
          | ali k =>
            obtain ⟨x, s2, f1, f2, f3, f4⟩ := o1
            by_cases hk : i = k
            · subst hk
              refine ⟨x, .val o.frz, f1, f2, ?_, trivial⟩
              rw [List.getElem?_set_self hi]
            · exact ⟨x, s2, f1, f2, by rw [List.getElem?_set_ne hk]; exact f3, f4⟩
          | raw => exact o1
          | non => exact o1
          | val _ => exact o1
          | own _ => exact o1
          | lent _ _ => exact o1
      have pwn : (both σ (τ.set i (.val o.frz)) tm).Pairwise Apart := by
        rw [sz]
        exact pw_set (fun h => Apart.symm h) (List.pairwise_cons.mpr ⟨fun _ _ => apart_none holds_val, rt.nd⟩)
      have base : Rl F (with1 Φ H a) H σ (τ.set i (.val o.frz)) tm := ⟨by rw [List.length_set]; exact r.len, r.fl.set (s := .val o.frz) trivial i, r.le0.trans (with1_le q2), join_le r.le, r.pres, r.dom, fun b o h => by
        by_cases q : b = a
        · subst q; exact .inr q3
        · rw [with1_ne q] at h; exact r.new b o h, ones, pwn, with1_tabs r.tabs q1⟩
      exact base.val vfz
theorem take_cases {s : S} {K : D → List S → Prop} (h : Wp F W tm (take s τ) K) : ∃ d τ', take s τ = .ok (d, τ') ∧ K d τ' := by
  cases e : take s τ with
  | ok p => rw [e] at h; exact ⟨p.1, p.2, rfl, h⟩
  | stuck => rw [e] at h; exact h.elim
  | exc c fs t =>
    exfalso
    unfold take at e
    split at e <;> (first | (cases e; done) | (split at e <;> cases e))
/-- all of a list are taken -/
theorem Rl.takenAll : ∀ {ss : List S} {vs : List V} {Φ : Hp} {τ τ' : List S} {tm : Env1} {ds : List D}, vs.length = ss.length → Rl F Φ H σ τ ((vs.map some).zip ss ++ tm) → takeAll ss τ = .ok (ds, τ') → ∃ Φ', Rl F Φ' H σ τ' tm ∧ FzL F.G Φ' vs ds
  | [], [], Φ, τ, τ', tm, ds, _, r, e => by
    cases e
    exact ⟨Φ, r, .nil⟩
  | s :: ss, v :: vs, Φ, τ, τ', tm, ds, l, r, e => by
    obtain ⟨d, τ1, e1, e⟩ := bnd_ok e
    obtain ⟨ds', τ2, e2, e⟩ := bnd_ok e
    cases e
    obtain ⟨Φ1, r1⟩ := Rl.taken r e1
    have r2 : Rl F Φ1 H σ τ1 ((vs.map some).zip ss ++ ((some v, .val d) :: tm)) := r1.air (.perm (by
      show ((some v, S.val d) :: ((vs.map some).zip ss ++ tm)).Perm _
      exact List.perm_middle.symm))
    obtain ⟨Φ2, r3, q⟩ := Rl.takenAll (by simpa using l) r2 e2
    obtain ⟨x, e3, q3⟩ := r3.hd
    cases e3
    exact ⟨Φ2, r3.tl, .cons q3 q⟩
theorem takeAll_cases : ∀ {ss : List S} {τ : List S} {K : List D → List S → Prop}, Wp F W tm (takeAll ss τ) K → ∃ ds τ', takeAll ss τ = .ok (ds, τ') ∧ K ds τ'
  | [], τ, K, h => ⟨[], τ, rfl, h⟩
  | s :: ss, τ, K, h => by
    obtain ⟨d, τ1, e1, h1⟩ := take_cases h.bnd
    obtain ⟨ds, τ2, e2, h2⟩ := takeAll_cases h1.bnd
    exact ⟨d :: ds, τ2, (ok_bnd e1).trans ((ok_bnd e2).trans rfl), h2⟩
end
end Mi

/-! ### M3: rules for expressions -/
namespace Mi
open PySem PySem.Spec PyProof.Rows L2
section
variable {X : Cx} {F : Fm} {W : WX} {Φ Φ' H H' : Hp} {σ : L2.St} {τ τ' : List S} {tm : Env1}

theorem te_go {Q : VK} {ma : M S} {tm0 : Env1} {P : S → List S → Prop} (r : Rl F Φ H σ τ tm) (h : Wp F W tm0 (ma τ) P) (k : ∀ s τ1 v H1 Φ1, P s τ1 → Rl F Φ1 H1 σ τ1 ((some v, s) :: tm) → Q v H1) (sub : Subp tm0 tm := by repeat (first | exact Subp.of (List.Sublist.refl _) | apply Subp.cons' | apply Subp.app')) : TEm F W ma σ H Q :=
  ⟨Φ, τ, tm, r, (h.air sub).mono fun s τ1 p v H1 Φ1 r1 => k s τ1 v H1 Φ1 p r1⟩
theorem tb_go {Q : Bool → Hp → Prop} {ma : M Bool} {tm0 : Env1} {P : Bool → List S → Prop} (r : Rl F Φ H σ τ tm) (h : Wp F W tm0 (ma τ) P) (k : ∀ b τ1 H1 Φ1, P b τ1 → Rl F Φ1 H1 σ τ1 tm → Q b H1) (sub : Subp tm0 tm := by repeat (first | exact Subp.of (List.Sublist.refl _) | apply Subp.cons' | apply Subp.app')) : TBm F W ma σ H Q :=
  ⟨Φ, τ, tm, r, (h.air sub).mono fun s τ1 p H1 Φ1 r1 => k s τ1 H1 Φ1 p r1⟩
theorem tl_go {Q : List V → Hp → Prop} {ma : M (List S)} {tm0 : Env1} {P : List S → List S → Prop} (r : Rl F Φ H σ τ tm) (h : Wp F W tm0 (ma τ) P) (k : ∀ ss τ1 vs H1 Φ1, P ss τ1 → vs.length = ss.length → Rl F Φ1 H1 σ τ1 ((vs.map some).zip ss ++ tm) → Q vs H1) (sub : Subp tm0 tm := by repeat (first | exact Subp.of (List.Sublist.refl _) | apply Subp.cons' | apply Subp.app')) : TLm F W ma σ H Q :=
  ⟨Φ, τ, tm, r, (h.air sub).mono fun s τ1 p vs H1 Φ1 l r1 => k s τ1 vs H1 Φ1 p l r1⟩

/-! #### constants, names -/
def eLit (d : D) : M S := M.ret (.val d)
theorem em_int {i j pos} : EM X F W (.Constant (.int i) j pos) (eLit (.int i)) := PE.imp pe_int fun σ H Q ⟨Φ, τ, tm, r, h⟩ => h _ _ _ (r.val (.int i))
theorem em_bl {b j pos} : EM X F W (.Constant (.bool b) j pos) (eLit (.bl b)) := PE.imp pe_bl fun σ H Q ⟨Φ, τ, tm, r, h⟩ => h _ _ _ (r.val (.bl b))
theorem em_non {j pos} : EM X F W (.Constant .none j pos) (eLit .non) := PE.imp pe_non fun σ H Q ⟨Φ, τ, tm, r, h⟩ => h _ _ _ (r.val .non)
theorem em_str {x j pos} : EM X F W (.Constant (.str x) j pos) (eLit (.str x)) := PE.imp pe_str fun σ H Q ⟨Φ, τ, tm, r, h⟩ => h _ _ _ (r.val (.str x))
def eVar (i : Nat) : M S := fun τ => match τ[i]? with
  | some (.val d) => .ok (.val d, τ)
  | some (.own _) => .ok (.ali i, τ)
  | some (.lent _ _) => .ok (.ali i, τ)
  | _ => .stuck
theorem em_var (i : Nat) {x : Str} {pos : Pos} (hN : X.N[i]? = some x := by rfl) (hv : Vis X.env.scope x := by first | exact Or.inl rfl | exact Or.inr (Or.inl rfl) | exact Or.inr (Or.inr rfl)) (hd : (x == ("__debug__" : Str)) = false := by decide)
    (hcd : (x == ("__classdict__" : Str)) = false := by decide) : EM X F W (.Name x pos) (eVar i) := by
  refine PE.imp (pe_var hN hv hd hcd) fun σ H Q ⟨Φ, τ, tm, r, h⟩ => ?_
  unfold eVar at h
  cases e : τ[i]? with
  | none => rw [e] at h; exact h.elim
  | some s =>
    rw [e] at h
    obtain ⟨v, e1, em, o⟩ := r.at e
    cases s with
    | raw => exact h.elim
    | non => exact h.elim
    | ali k => exact h.elim
    | val d =>
      obtain ⟨x, e2, q⟩ := o
      subst e2
      exact ⟨x, e1, h x H Φ (r.val q)⟩
    | own o' =>
      obtain ⟨a, e2, q⟩ := o
      subst e2
      exact ⟨.ref a, e1, h (.ref a) H Φ (r.put (p := (some (.ref a), .ali i)) ⟨.ref a, .own o', rfl, e1, e, trivial⟩ fun _ _ => apart_none holds_ali)⟩
    | lent j o' =>
      obtain ⟨a, e2, q⟩ := o
      subst e2
      exact ⟨.ref a, e1, h (.ref a) H Φ (r.put (p := (some (.ref a), .ali i)) ⟨.ref a, .lent j o', rfl, e1, e, trivial⟩ fun _ _ => apart_none holds_ali)⟩

/-! #### what an operation by values does -/
/-- the operation f, by plain data, is what r asks -/
def OpS (F : Fm) (f : D → D → Option S) (r : R2) : Prop := ∀ {Φ H : Hp} {σ : L2.St} {τ : List S} {tm : Env1} {v w : V} {d e : D} {s : S} {Q : VK}, Rl F Φ H σ τ tm → Rdv F Φ H v d → Rdv F Φ H w e → f d e = some s →
  (∀ x H' Φ', Rl F Φ' H' σ τ ((some x, s) :: tm) → Q x H') → r v w H Q
def UnS (F : Fm) (f : D → Option S) (r : V → Hp → VK → Prop) : Prop := ∀ {Φ H : Hp} {σ : L2.St} {τ : List S} {tm : Env1} {v : V} {d : D} {s : S} {Q : VK}, Rl F Φ H σ τ tm → Rdv F Φ H v d → f d = some s →
  (∀ x H' Φ', Rl F Φ' H' σ τ ((some x, s) :: tm) → Q x H') → r v H Q
inductive RdAll (F : Fm) (Φ H : Hp) : List V → List D → Prop
  | nil : RdAll F Φ H [] []
  | cons {v : V} {d : D} {vs : List V} {ds : List D} : Rdv F Φ H v d → RdAll F Φ H vs ds → RdAll F Φ H (v :: vs) (d :: ds)
def CaS (F : Fm) (f : List D → Option S) (r : List V → Hp → VK → Prop) : Prop := ∀ {Φ H : Hp} {σ : L2.St} {τ : List S} {tm : Env1} {vs : List V} {ds : List D} {s : S} {Q : VK}, Rl F Φ H σ τ tm → RdAll F Φ H vs ds → f ds = some s →
  (∀ x H' Φ', Rl F Φ' H' σ τ ((some x, s) :: tm) → Q x H') → r vs H Q
def peekAll : List S → M (List D)
  | [] => M.ret []
  | s :: ss => M.bnd (peek s) fun d => M.bnd (peekAll ss) fun ds => M.ret (d :: ds)
theorem peek_ok {s : S} {d : D} (h : peek s τ = .ok (d, τ')) : peekS τ s = some d ∧ τ' = τ := by
  unfold peek at h
  cases e : peekS τ s with
  | none => rw [e] at h; cases h
  | some d' => rw [e] at h; cases h; exact ⟨rfl, rfl⟩
theorem Rl.peekAll {tm0 : Env1} : ∀ {ss : List S} {vs : List V} {K : List D → List S → Prop} {tm : Env1}, vs.length = ss.length → Rl F Φ H σ τ ((vs.map some).zip ss ++ tm) → Wp F W tm0 (peekAll ss τ) K → ∃ ds, RdAll F Φ H vs ds ∧ K ds τ
  | [], [], K, tm, _, _, h => ⟨[], .nil, h⟩
  | s :: ss, v :: vs, K, tm, l, r, h => by
    obtain ⟨d, e1, h1⟩ := Wp.peek h.bnd
    obtain ⟨ds, q, k⟩ := Rl.peekAll (tm := tm) (by simpa using l) (r.air (.of (by
      show ((vs.map some).zip ss ++ tm).Sublist ((some v, s) :: ((vs.map some).zip ss ++ tm))
      exact List.sublist_cons_self _ _))) h1.bnd
    exact ⟨d :: ds, .cons (r.peek (r.one (some v, s) (List.mem_append_right _ List.mem_cons_self)) e1) q, k⟩

def eOp (f : D → D → Option S) (ma mb : M S) : M S := M.bnd ma fun s => M.bnd mb fun t => M.bnd (peek s) fun d => M.bnd (peek t) fun e => M.of (f d e)
theorem t_op {f : D → D → Option S} {r : R2} (hf : OpS F f r) {ma mb : M S} {Q : VK} (h : TEm F W (eOp f ma mb) σ H Q) : tOp r (TEm F W ma) (TEm F W mb) σ H Q := by
  obtain ⟨Φ, τ, tm, rl, h⟩ := h
  refine te_go rl h.bnd fun s τ1 v H1 Φ1 p1 r1 => te_go r1 p1.bnd fun t τ2 w H2 Φ2 p2 r2 => ?_
  obtain ⟨d, e1, p3⟩ := Wp.peek p2.bnd
  obtain ⟨e, e2, p4⟩ := Wp.peek p3.bnd
  obtain ⟨u, e3, k⟩ := Wp.of p4
  exact hf r2.tl.tl (r2.peek (r2.one (some v, s) (List.mem_append_right _ (List.mem_cons_of_mem _ List.mem_cons_self))) e1) (r2.peek r2.hd e2) e3 fun x H' Φ' r' => k x H' Φ' r'
variable {a b : Expr} {ma mb : M S} {pos : Pos}
theorem em_op {op : Operator} {f : D → D → Option S} {r : R2} (ho : OpR X (binaryOp op) r) (hf : OpS F f r) (ha : EM X F W a ma) (hb : EM X F W b mb) : EM X F W (.BinOp a op b pos) (eOp f ma mb) := PE.imp (pe_op ho ha hb) fun _ _ _ h => t_op hf h
theorem em_cmp {op : CmpOp} {f : D → D → Option S} {r : R2} (ho : OpR X (compareOp op) r) (hf : OpS F f r) (ha : EM X F W a ma) (hb : EM X F W b mb) (hm : behindInMarks op b = false) : EM X F W (.Compare a [op] [b] pos) (eOp f ma mb) := PE.imp (pe_cmpR ho ha hb hm) fun _ _ _ h => t_op hf h
theorem em_ix {f : D → D → Option S} {r : R2} (ho : IxR X r) (hf : OpS F f r) (ha : EM X F W a ma) (hb : EM X F W b mb) (hs : PlainIx b := by exact fun _ _ => rfl) : EM X F W (.Subscript a b pos) (eOp f ma mb) := PE.imp (pe_ix ho ha hb hs) fun _ _ _ h => t_op hf h
def eUn (f : D → Option S) (ma : M S) : M S := M.bnd ma fun s => M.bnd (peek s) fun d => M.of (f d)
theorem t_un {f : D → Option S} {r : V → Hp → VK → Prop} (hf : UnS F f r) {Q : VK} (h : TEm F W (eUn f ma) σ H Q) : TEm F W ma σ H fun x H1 => r x H1 Q := by
  obtain ⟨Φ, τ, tm, rl, h⟩ := h
  refine te_go rl h.bnd fun s τ1 v H1 Φ1 p1 r1 => ?_
  obtain ⟨d, e1, p2⟩ := Wp.peek p1.bnd
  obtain ⟨u, e3, k⟩ := Wp.of p2
  exact hf r1.tl (r1.peek r1.hd e1) e3 fun x H' Φ' r' => k x H' Φ' r'
theorem em_un {op : UnaryOp} {f : D → Option S} {r : V → Hp → VK → Prop} (ho : UnR X (unaryOp op) r) (hf : UnS F f r) (ha : EM X F W a ma) : EM X F W (.UnaryOp op a pos) (eUn f ma) := PE.imp (pe_un ho ha) fun _ _ _ h => t_un hf h

/-! #### truth -/
def asB : S → Option Bool
  | .val (.bl b) => some b
  | _ => none
def bVal (ma : M S) : M Bool := M.bnd ma fun s => M.of (asB s)
theorem one_bl {v : V} {s : S} {b : Bool} (h : One F Φ H σ τ (some v, s)) (e : asB s = some b) : v = .bl b := by
  cases s with
  | val d =>
    cases d with
    | bl b' =>
      cases e
      obtain ⟨x, e1, q⟩ := h
      cases e1
      cases q
      rfl
    | _ => cases e
  | _ => cases e
theorem t_val {Q : Bool → Hp → Prop} (h : TBm F W (bVal ma) σ H Q) : TEm F W ma σ H fun x H1 => ∃ c, x = .bl c ∧ Q c H1 := by
  obtain ⟨Φ, τ, tm, rl, h⟩ := h
  refine te_go rl h.bnd fun s τ1 v H1 Φ1 p1 r1 => ?_
  obtain ⟨b, e, k⟩ := Wp.of p1
  exact ⟨b, one_bl r1.hd e, k H1 Φ1 r1.tl⟩
theorem bm_val (ha : EM X F W a ma) (he : ∀ whole, isTrue a X.env whole = (do let v ← whole; standAt a.pos; holding [v] (truthy v)) := by intro _; rfl) : BM X F W a (bVal ma) := PT.imp (pt_val ha he) fun _ _ _ h => t_val h
theorem bm_cmp {op : CmpOp} {f : D → D → Option S} {r : R2} (ho : OpR X (compareOp op) r) (hf : OpS F f r) (ha : EM X F W a ma) (hb : EM X F W b mb) (hm : behindInMarks op b = false) : BM X F W (.Compare a [op] [b] pos) (bVal (eOp f ma mb)) :=
  PT.imp (pt_cmpR ho ha hb hm) fun _ _ _ h => t_op hf (t_val h)
def bNot (m : M Bool) : M Bool := M.bnd m fun b => M.ret (!b)
def bAnd (m n : M Bool) : M Bool := M.bnd m fun b => if b = true then n else M.ret false
def bOr (m n : M Bool) : M Bool := M.bnd m fun b => if b = true then M.ret true else n
variable {m n : M Bool} {rest : List Expr}
theorem bm_not (h : BM X F W a m) : BM X F W (.UnaryOp .Not a pos) (bNot m) := PT.imp (pt_not h) fun σ H Q ⟨Φ, τ, tm, rl, h⟩ => tb_go rl h.bnd fun b τ1 H1 Φ1 p1 r1 => p1 H1 Φ1 r1
theorem wm_and1 (h : BM X F W a m) : WM X F W (.BoolOp .And [a] pos) m := pw_and1 h
theorem wm_or1 (h : BM X F W a m) : WM X F W (.BoolOp .Or [a] pos) m := pw_or1 h
theorem wm_and (h : BM X F W a m) (hr : WM X F W (.BoolOp .And (b :: rest) pos) n) : WM X F W (.BoolOp .And (a :: b :: rest) pos) (bAnd m n) := PW.imp (pw_and h hr) fun σ H Q ⟨Φ, τ, tm, rl, h⟩ => tb_go rl h.bnd fun c τ1 H1 Φ1 p1 r1 => by
  cases c with
  | true => rw [if_pos rfl] at p1 ⊢; exact ⟨Φ1, τ1, tm, r1, p1⟩
  | false => rw [if_neg Bool.false_ne_true] at p1 ⊢; exact p1 H1 Φ1 r1
theorem wm_or (h : BM X F W a m) (hr : WM X F W (.BoolOp .Or (b :: rest) pos) n) : WM X F W (.BoolOp .Or (a :: b :: rest) pos) (bOr m n) := PW.imp (pw_or h hr) fun σ H Q ⟨Φ, τ, tm, rl, h⟩ => tb_go rl h.bnd fun c τ1 H1 Φ1 p1 r1 => by
  cases c with
  | true => rw [if_pos rfl] at p1 ⊢; exact p1 H1 Φ1 r1
  | false => rw [if_neg Bool.false_ne_true] at p1 ⊢; exact ⟨Φ1, τ1, tm, r1, p1⟩
/-- as values -/
def eAnd (ma mb : M S) : M S := M.bnd ma fun s => M.bnd (M.of (asB s)) fun b => if b = true then mb else M.ret (.val (.bl false))
def eOr (ma mb : M S) : M S := M.bnd ma fun s => M.bnd (M.of (asB s)) fun b => if b = true then M.ret (.val (.bl true)) else mb
def eNot (ma : M S) : M S := M.bnd ma fun s => M.bnd (M.of (asB s)) fun b => M.ret (.val (.bl !b))
theorem em_one {op} (h : EM X F W a ma) : EM X F W (.BoolOp op [a] pos) ma := pe_one h
theorem em_and (ha : EM X F W a ma) (hb : EM X F W (.BoolOp .And (b :: rest) pos) mb) : EM X F W (.BoolOp .And (a :: b :: rest) pos) (eAnd ma mb) := PE.imp (pe_and ha hb) fun σ H Q ⟨Φ, τ, tm, rl, h⟩ => te_go rl h.bnd fun s τ1 v H1 Φ1 p1 r1 => by
  obtain ⟨c, e, k⟩ := Wp.of p1.bnd
  refine ⟨c, one_bl r1.hd e, ?_⟩
  cases c with
  | true => rw [if_pos rfl] at k ⊢; exact ⟨Φ1, τ1, tm, r1.tl, k⟩
  | false => rw [if_neg Bool.false_ne_true] at k ⊢; exact k _ _ _ (r1.tl.val (.bl false))
theorem em_or (ha : EM X F W a ma) (hb : EM X F W (.BoolOp .Or (b :: rest) pos) mb) : EM X F W (.BoolOp .Or (a :: b :: rest) pos) (eOr ma mb) := PE.imp (pe_or ha hb) fun σ H Q ⟨Φ, τ, tm, rl, h⟩ => te_go rl h.bnd fun s τ1 v H1 Φ1 p1 r1 => by
  obtain ⟨c, e, k⟩ := Wp.of p1.bnd
  refine ⟨c, one_bl r1.hd e, ?_⟩
  cases c with
  | true => rw [if_pos rfl] at k ⊢; exact k _ _ _ (r1.tl.val (.bl true))
  | false => rw [if_neg Bool.false_ne_true] at k ⊢; exact ⟨Φ1, τ1, tm, r1.tl, k⟩
theorem em_not (ha : EM X F W a ma) : EM X F W (.UnaryOp .Not a pos) (eNot ma) := PE.imp (pe_not ha) fun σ H Q ⟨Φ, τ, tm, rl, h⟩ => te_go rl h.bnd fun s τ1 v H1 Φ1 p1 r1 => by
  obtain ⟨c, e, k⟩ := Wp.of p1.bnd
  exact ⟨c, one_bl r1.hd e, k _ _ _ (r1.tl.val (.bl _))⟩
def eIf (m : M Bool) (ma mb : M S) : M S := M.bnd m fun b => if b = true then ma else mb
theorem em_if {c : Expr} (hc : BM X F W c m) (ha : EM X F W a ma) (hb : EM X F W b mb) : EM X F W (.IfExp c a b pos) (eIf m ma mb) := PE.imp (pe_ifExp hc ha hb) fun σ H Q ⟨Φ, τ, tm, rl, h⟩ => tb_go rl h.bnd fun b τ1 H1 Φ1 p1 r1 => by
  cases b with
  | true => rw [if_pos rfl] at p1 ⊢; exact ⟨Φ1, τ1, tm, r1, p1⟩
  | false => rw [if_neg Bool.false_ne_true] at p1 ⊢; exact ⟨Φ1, τ1, tm, r1, p1⟩
/-- a < b < c -/
def eChain (f g : D → D → Option S) (ma mb mc : M S) : M S := M.bnd ma fun s => M.bnd mb fun t => M.bnd (peek s) fun d => M.bnd (peek t) fun e => M.bnd (M.of (f d e)) fun u => M.bnd (M.of (asB u)) fun k =>
  if k = true then M.bnd mc fun t2 => M.bnd (peek t) fun e' => M.bnd (peek t2) fun e2 => M.of (g e' e2) else M.ret (.val (.bl false))

/-! #### lists of arguments, displays -/
def lNil : M (List S) := M.ret []
def lCons (ma : M S) (ms : M (List S)) : M (List S) := M.bnd ma fun s => M.bnd ms fun ss => M.ret (s :: ss)
variable {es : List Expr} {ms : M (List S)}
theorem lm_nil : LM X F W [] lNil := PA.imp pa_nil fun σ H Q ⟨Φ, τ, tm, rl, h⟩ => h [] H Φ rfl rl
theorem lm_cons (ha : EM X F W a ma) (hr : LM X F W es ms) (hs : starEach (a :: es) X.env = (false, eval a X.env) :: starEach es X.env := by rfl) : LM X F W (a :: es) (lCons ma ms) :=
  PA.imp (pa_cons ha hr hs) fun σ H Q ⟨Φ, τ, tm, rl, h⟩ => te_go rl h.bnd fun s τ1 v H1 Φ1 p1 r1 => tl_go r1 p1.bnd fun ss τ2 vs H2 Φ2 p2 l r2 => p2 (v :: vs) H2 Φ2 (by simp [l]) (r2.air (.perm (by
    show ((vs.map some).zip ss ++ ((some v, s) :: tm)).Perm ((some v, s) :: ((vs.map some).zip ss ++ tm))
    exact List.perm_middle)))
def fitL (n : Nat) : Option Unit := if n ≤ sizeLine then some () else none
def eTup (ms : M (List S)) : M S := M.bnd ms fun ss => M.bnd (takeAll ss) fun ds => M.bnd (M.of (fitL ds.length)) fun _ => M.ret (.val (.tup ds))
def eLst (ms : M (List S)) : M S := M.bnd ms fun ss => M.bnd (takeAll ss) fun ds => M.bnd (M.of (fitL ds.length)) fun _ => M.ret (.own (.lst ds))
theorem fit_ok {n : Nat} {u : Unit} (h : fitL n = some u) : n ≤ sizeLine := by
  unfold fitL at h
  split at h
  · assumption
  · cases h
theorem em_tup {x1} (h : LM X F W es ms) : EM X F W (.Tuple es x1 pos) (eTup ms) := PE.imp (pe_tup h) fun σ H Q ⟨Φ, τ, tm, rl, h⟩ => tl_go rl h.bnd fun ss τ1 vs H1 Φ1 p1 l r1 => by
  obtain ⟨ds, τ2, e, p2⟩ := takeAll_cases p1.bnd
  obtain ⟨Φ2, r2, q⟩ := Rl.takenAll l r1 e
  obtain ⟨u, e2, k⟩ := Wp.of p2.bnd
  exact ⟨by rw [q.length]; exact fit_ok e2, fun p hp => k _ _ _ (r2.tuple hp q)⟩
theorem em_lst (h : LM X F W es ms) : EM X F W (.List es pos) (eLst ms) := PE.imp (pe_lst h) fun σ H Q ⟨Φ, τ, tm, rl, h⟩ => tl_go rl h.bnd fun ss τ1 vs H1 Φ1 p1 l r1 => by
  obtain ⟨ds, τ2, e, p2⟩ := takeAll_cases p1.bnd
  obtain ⟨Φ2, r2, q⟩ := Rl.takenAll l r1 e
  obtain ⟨u, e2, k⟩ := Wp.of p2.bnd
  exact ⟨by rw [q.length]; exact fit_ok e2, fun p hp => k _ _ _ (r2.mine hp q)⟩

/-! #### calls of what is built in -/
def eCB (f : List D → Option S) (ms : M (List S)) : M S := M.bnd ms fun ss => M.bnd (peekAll ss) fun ds => M.of (f ds)
theorem t_cb {f : List D → Option S} {r : List V → Hp → VK → Prop} (hf : CaS F f r) {Q : VK} (h : TEm F W (eCB f ms) σ H Q) : tCB r (TLm F W ms) σ H Q := by
  obtain ⟨Φ, τ, tm, rl, h⟩ := h
  refine tl_go rl h.bnd fun ss τ1 vs H1 Φ1 p1 l r1 => ?_
  obtain ⟨ds, q, p2⟩ := Rl.peekAll l r1 p1.bnd
  obtain ⟨s, e, k⟩ := Wp.of p2
  have r2 : Rl F Φ1 H1 σ τ1 tm := r1.air (.of (List.sublist_append_right _ _))
  exact hf r2 q e fun x H' Φ' r' => k x H' Φ' r'
variable {x : Str} {p : Pos} {id T : String} {f : List D → Option S} {r : List V → Hp → VK → Prop}
theorem em_callB (hc : CallR X (.builtin id) r) (hf : CaS F f r) (hm : X.mg x = none) (ha : LM X F W (a :: es) ms) (hv : bootBuiltins x = some (.builtin id) := by decide +kernel) (hg : Gl X x := by rfl) (hn : x ≠ "__name__" := by decide) (hdb : (x == ("__debug__" : Str)) = false := by decide)
    (he : starEach (a :: es) X.env = (false, eval a X.env) :: starEach es X.env := by rfl) (hpl : (backTo pos (starEach es X.env)).any (·.1) = false := by rfl) : EM X F W (.Call (.Name x p) (a :: es) [] pos) (eCB f ms) := PE.imp (pe_callB hc hg hm hv ha hn hdb he hpl) fun _ _ _ h => t_cb hf h
theorem em_callTy (hc : CallR X (.type T) r) (hf : CaS F f r) (hm : X.mg x = none) (ha : LM X F W (a :: es) ms) (hv : bootBuiltins x = some (.type T) := by decide +kernel) (hg : Gl X x := by rfl) (hn : x ≠ "__name__" := by decide) (hdb : (x == ("__debug__" : Str)) = false := by decide)
    (he : starEach (a :: es) X.env = (false, eval a X.env) :: starEach es X.env := by rfl) (hpl : (backTo pos (starEach es X.env)).any (·.1) = false := by rfl) : EM X F W (.Call (.Name x p) (a :: es) [] pos) (eCB f ms) := PE.imp (pe_callTy hc hg hm hv ha hn hdb he hpl) fun _ _ _ h => t_cb hf h
end
end Mi

/-! ### M4: operations by plain data -/
namespace Mi
open PySem PySem.Spec PyProof.Rows L2

/-- below a million bits together -/
def mulFits (i j : Int) : Bool := decide (i.natAbs.log2 + j.natAbs.log2 < 1000000) || (decide (-(2 ^ 64) < i) && decide (i < 2 ^ 64))
/-- small factors, or a left one of 64 bits -/
def CMulB (i j : Int) : Prop := CMulW i j ∨ CMul i j
theorem op_mulB : OpR X (binaryOp .Mult) (rI CMulB fun i j => .int (i * j)) := by
  intro pins s σ H x y v u Q I rx ry h
  obtain ⟨i, j, e1, e2, hc, q⟩ := h
  rcases hc with hc | hc
  · exact op_mulW pins s σ H x y v u Q I rx ry ⟨i, j, e1, e2, hc, q⟩
  · exact op_mul pins s σ H x y v u Q I rx ry ⟨i, j, e1, e2, hc, q⟩
def sInt (i : Int) : Option S := some (.val (.int i))
def sBl (b : Bool) : Option S := some (.val (.bl b))
def fAdd : D → D → Option S
  | .int i, .int j => sInt (i + j)
  | .str x, .str y => if x.length + y.length ≤ sizeLine then some (.val (.str (x ++ y))) else none
  | .lst xs, .lst ys => if xs.length + ys.length ≤ sizeLine then some (.own (.lst (xs ++ ys))) else none
  | .tup xs, .tup ys => if xs ≠ [] ∧ ys ≠ [] ∧ xs.length + ys.length ≤ sizeLine then some (.val (.tup (xs ++ ys))) else none
  | _, _ => none
def fSub : D → D → Option S
  | .int i, .int j => sInt (i - j)
  | _, _ => none
def fMul : D → D → Option S
  | .int i, .int j => if mulFits i j = true then sInt (i * j) else none
  | .str x, .int j => none
  | _, _ => none
/-- a positive divisor below 2 ^ 9000 -/
def fDiv : D → D → Option S
  | .int i, .int j => if 0 < j ∧ j.natAbs.log2 < 9000 then sInt (i / j) else if j < 0 ∧ j.natAbs.log2 < 9000 then sInt (i.fdiv j) else none
  | _, _ => none
def fMod : D → D → Option S
  | .int i, .int j => if 0 < j then sInt (i % j) else if j < 0 then sInt (i.fmod j) else none
  | _, _ => none
def fNeg : D → Option S
  | .int i => sInt (-i)
  | _ => none
def fCmp (p : Int → Int → Bool) : D → D → Option S
  | .int i, .int j => sBl (p i j)
  | _, _ => none
def fLt := fCmp fun i j => decide (i < j)
def fLe := fCmp fun i j => decide (i ≤ j)
def fGt := fCmp fun i j => decide (j < i)
def fGe := fCmp fun i j => decide (j ≤ i)
mutual
def D.py : D → Option PyData
  | .non => some .none
  | .bl b => some (.bool b)
  | .int i => some (.int i)
  | .str x => some (.str x)
  | .lst xs => (D.pys xs).map .list
  | .tup xs => (D.pys xs).map .tuple
  | _ => none
def D.pys : List D → Option (List PyData)
  | [] => some []
  | d :: ds => match D.py d, D.pys ds with
    | some p, some ps => some (p :: ps)
    | _, _ => none
end
def eqD (d e : D) : Option Bool := match d.py, e.py with
  | some p, some q => if SeqAt.shaped p = true ∧ SeqAt.shaped q = true then some (PyData.eqv p q) else none
  | _, _ => none
def fEq (d e : D) : Option S := (eqD d e).map fun b => .val (.bl b)
def fNe (d e : D) : Option S := (eqD d e).map fun b => .val (.bl !b)
def isNon : D → Bool
  | .non => true
  | _ => false
def fIsN (d e : D) : Option S := if isNon e = true then sBl (isNon d) else none
def fNotN (d e : D) : Option S := if isNon e = true then sBl (!isNon d) else none
/-- x[i] -/
def fIx : D → D → Option S
  | .lst xs, .int i => (atI xs i).map .val
  | .tup xs, .int i => (atI xs i).map .val
  | .scr xs, .int i => (atI xs i).map .val
  | .str z, .int i => if z.length ≤ sizeLine then (atI z.cps.toList i).map fun c => .val (.str ⟨#[c]⟩) else none
  | _, _ => none
def fLen : List D → Option S
  | [.lst xs] => sInt xs.length
  | [.tup xs] => sInt xs.length
  | [.scr xs] => sInt xs.length
  | [.str z] => if z.length ≤ sizeLine then sInt z.length else none
  | _ => none
def fAbs : List D → Option S
  | [.int i] => sInt (if i < 0 then -i else i)
  | _ => none
def fInt : List D → Option S
  | [.int i] => sInt i
  | [.bl k] => sInt (if k then 1 else 0)
  | _ => none
def fBool : List D → Option S
  | [.int i] => sBl (i != 0)
  | [.bl k] => sBl k
  | _ => none
def fList : List D → Option S
  | [.lst xs] => some (.own (.lst xs))
  | [.tup xs] => some (.own (.lst xs))
  | [.scr xs] => some (.own (.lst xs))
  | _ => none
def fTuple : List D → Option S
  | [.lst xs] => some (.val (.tup xs))
  | [.scr xs] => some (.val (.tup xs))
  | [.tup xs] => some (.val (.tup xs))
  | _ => none
def bools : List D → Option (List Bool)
  | [] => some []
  | .bl b :: ds => (bools ds).map (b :: ·)
  | _ => none
def intsD : List D → Option (List Int)
  | [] => some []
  | .int b :: ds => (intsD ds).map (b :: ·)
  | _ => none
def fAll : List D → Option S
  | [.lst xs] => (bools xs).map fun bs => .val (.bl (bs.all id))
  | _ => none
def fAny : List D → Option S
  | [.lst xs] => (bools xs).map fun bs => .val (.bl (bs.any id))
  | _ => none
def fSum : List D → Option S
  | [.lst xs] => (intsD xs).map fun ns => .val (.int ns.sum)
  | _ => none
section
variable {X : Cx} {F : Fm} {Φ Φ' H H' : Hp} {σ : L2.St} {τ τ' : List S} {tm : Env1}
theorem OpS.or {f : D → D → Option S} {r r' : R2} (h : OpS F f r) : OpS F f (fun x y H Q => r x y H Q ∨ r' x y H Q) := fun rl a b e k => .inl (h rl a b e k)
theorem fin_int {Q : VK} {i : Int} {s : S} (rl : Rl F Φ H σ τ tm) (e : sInt i = some s) (k : ∀ x H' Φ', Rl F Φ' H' σ τ ((some x, s) :: tm) → Q x H') : Q (.int i) H := by
  cases e
  exact k _ _ _ (rl.val (.int i))
theorem fin_bool {Q : VK} {i : Bool} {s : S} (rl : Rl F Φ H σ τ tm) (e : sBl i = some s) (k : ∀ x H' Φ', Rl F Φ' H' σ τ ((some x, s) :: tm) → Q x H') : Q (.bl i) H := by
  cases e
  exact k _ _ _ (rl.val (.bl i))
theorem o_add (hK : X.K = F.G.K) : ∃ r, OpR X (binaryOp .Add) r ∧ OpS F fAdd r := by
  refine ⟨_, (op_add (X := X)).or ((op_add_str (X := X)).or ((op_cat (X := X)).or (op_catT (X := X)))), ?_⟩
  intro Φ H σ τ tm v w d e s Q rl hd he hf k
  unfold fAdd at hf
  split at hf
  · exact .inl ⟨_, _, hd.int, he.int, fin_int rl hf k⟩
  · split at hf
    · rename_i hz
      cases hf
      exact .inr (.inl ⟨_, _, hd.str, he.str, hz, k _ _ _ (rl.val (.str _))⟩)
    · cases hf
  · split at hf
    · rename_i hz
      cases hf
      obtain ⟨a, vs, e1, e2, q1⟩ := hd.lst rl.le
      obtain ⟨b, ws, e3, e4, q2⟩ := he.lst rl.le
      exact .inr (.inr (.inl ⟨a, b, vs, ws, e1, e3, e2, e4, by rw [q1.length, q2.length]; exact hz, fun p hp => k _ _ _ (rl.mine hp (FzL.append q1 q2))⟩))
    · cases hf
  · split at hf
    · rename_i hz
      cases hf
      obtain ⟨a, vs, e1, e2, q1⟩ := hd.tup rl.le
      obtain ⟨b, ws, e3, e4, q2⟩ := he.tup rl.le
      have l1 := q1.length
      have l2 := q2.length
      refine .inr (.inr (.inr ⟨a, b, vs, ws, e1, e3, by rw [hK]; exact e2, by rw [hK]; exact e4, fun z => ?_, by rw [l1, l2]; exact hz.2.2, fun z => ?_, fun _ p hp => k _ _ _ (rl.tuple hp (FzL.append q1 q2))⟩))
      · subst z
        exact absurd (List.length_eq_zero_iff.mp (by simpa using l1.symm)) hz.1
      · subst z
        exact absurd (List.length_eq_zero_iff.mp (by simpa using l2.symm)) hz.2.1
    · cases hf
  · cases hf
/-- two intsD -/
theorem o_int {op : D → D → Option S} {C : Int → Int → Prop} {g : Int → Int → Int} (h : ∀ d e s, op d e = some s → ∃ i j, d = .int i ∧ e = .int j ∧ C i j ∧ s = .val (.int (g i j))) : OpS F op (rI C fun i j => .int (g i j)) := by
  intro Φ H σ τ tm v w d e s Q rl hd he hf k
  obtain ⟨i, j, rfl, rfl, c, rfl⟩ := h d e s hf
  exact ⟨i, j, hd.int, he.int, c, k _ _ _ (rl.val (.int _))⟩
theorem o_int0 {op : D → D → Option S} {g : Int → Int → Int} (h : ∀ d e s, op d e = some s → ∃ i j, d = .int i ∧ e = .int j ∧ s = .val (.int (g i j))) : OpS F op (rI0 fun i j => .int (g i j)) := by
  intro Φ H σ τ tm v w d e s Q rl hd he hf k
  obtain ⟨i, j, rfl, rfl, rfl⟩ := h d e s hf
  exact ⟨i, j, hd.int, he.int, k _ _ _ (rl.val (.int _))⟩
theorem o_sub : OpS F fSub (rI0 fun i j => .int (i - j)) := o_int0 fun d e s h => by
  unfold fSub at h
  split at h
  · cases h; exact ⟨_, _, rfl, rfl, rfl⟩
  · cases h
theorem o_mul : OpS F fMul (rI CMulB fun i j => .int (i * j)) := o_int fun d e s h => by
  unfold fMul at h
  split at h
  · split at h
    · rename_i hz
      cases h; exact ⟨_, _, rfl, rfl, (by
        rcases Bool.or_eq_true_iff.mp hz with hz | hz
        · exact .inl (by unfold CMulW; exact of_decide_eq_true hz)
        · obtain ⟨h1, h2⟩ := Bool.and_eq_true_iff.mp hz
          exact .inr (.inl ⟨of_decide_eq_true h1, of_decide_eq_true h2⟩)), rfl⟩
    · cases h
  · cases h
  · cases h
def CDivA (i j : Int) : Prop := (0 < j ∨ j < 0) ∧ j.natAbs.log2 < 9000
theorem op_fdivA : OpR X (binaryOp .FloorDiv) (rI CDivA fun i j => .int (i.fdiv j)) := opI fun i j _ _ _ _ _ hc q => floordiv_int (by have := hc.1; omega) q (.inl (PyProof.noPylong_of_log2 hc.2))
theorem o_div : OpS F fDiv (rI CDivA fun i j => .int (i.fdiv j)) := o_int fun d e s h => by
  unfold fDiv at h
  split at h
  · rename_i i j
    split at h
    · rename_i hz
      cases h; exact ⟨_, _, rfl, rfl, ⟨.inl hz.1, hz.2⟩, by rw [Int.fdiv_eq_ediv_of_nonneg i (by omega)]⟩
    · split at h
      · rename_i hz
        cases h; exact ⟨_, _, rfl, rfl, ⟨.inr hz.1, hz.2⟩, rfl⟩
      · cases h
  · cases h
theorem o_mod : OpS F fMod (rI (fun _ j => j ≠ 0) fun i j => .int (i.fmod j)) := o_int fun d e s h => by
  unfold fMod at h
  split at h
  · rename_i i j
    split at h
    · rename_i hz
      cases h; exact ⟨_, _, rfl, rfl, by omega, by rw [Int.fmod_eq_emod_of_nonneg i (by omega)]⟩
    · split at h
      · rename_i hz
        cases h; exact ⟨_, _, rfl, rfl, by omega, rfl⟩
      · cases h
  · cases h
theorem o_neg : UnS F fNeg (rU fun i => .int (-i)) := by
  intro Φ H σ τ tm v d s Q rl hd hf k
  unfold fNeg at hf
  split at hf
  · exact ⟨_, hd.int, fin_int rl hf k⟩
  · cases hf
theorem o_cmp {p : Int → Int → Bool} : OpS F (fCmp p) (rI0 fun i j => .bl (p i j)) := by
  intro Φ H σ τ tm v w d e s Q rl hd he hf k
  unfold fCmp at hf
  split at hf
  · exact ⟨_, _, hd.int, he.int, fin_bool rl hf k⟩
  · cases hf
mutual
theorem fz_dp : ∀ {d : D} {v : V} {p : PyData}, Fz F.G Φ v d → Le Φ H → d.py = some p → Dp F.G.K H v p
  | .non, _, _, h, _, e => by cases h; cases e; exact .non
  | .bl b, _, _, h, _, e => by cases h; cases e; exact .bl b
  | .int i, _, _, h, _, e => by cases h; cases e; exact .int i
  | .str x, _, _, h, _, e => by cases h; cases e; exact .str x
  | .lst xs, _, _, h, l, e => by
    cases h with
    | lst h t =>
      unfold D.py at e
      cases q : D.pys xs with
      | none => rw [q] at e; cases e
      | some ps =>
        rw [q] at e
        cases e
        exact .lst (.inl (.inl (l _ _ h))) (fzl_dp t l q)
  | .tup xs, _, _, h, l, e => by
    cases h with
    | tup h t =>
      unfold D.py at e
      cases q : D.pys xs with
      | none => rw [q] at e; cases e
      | some ps =>
        rw [q] at e
        cases e
        exact .tup (SqT.le h l) (fzl_dp t l q)
  | .dic _, _, _, _, _, e => by simp [D.py] at e
  | .scr _, _, _, _, _, e => by simp [D.py] at e
  | .ins _ _, _, _, _, _, e => by simp [D.py] at e
  | .exc _ _, _, _, _, _, e => by simp [D.py] at e
  | .ty _, _, _, _, _, e => by simp [D.py] at e
  | .cls _, _, _, _, _, e => by simp [D.py] at e
  | .fn _, _, _, _, _, e => by simp [D.py] at e
theorem fzl_dp : ∀ {ds : List D} {vs : List V} {ps : List PyData}, FzL F.G Φ vs ds → Le Φ H → D.pys ds = some ps → DpAll F.G.K H vs ps
  | [], _, _, h, _, e => by
    cases h
    simp [D.pys] at e
    subst e
    exact .nil
  | d :: ds, _, _, h, l, e => by
    cases h with
    | cons h t =>
      unfold D.pys at e
      split at e
      · rename_i p ps q1 q2
        cases e
        exact .cons (fz_dp h l q1) (fzl_dp t l q2)
      · cases e
end
theorem rd_dp {d : D} {v : V} {p : PyData} (h : Rdv F Φ H v d) (l : Le Φ H) (e : d.py = some p) : Dp F.G.K H v p := by
  rcases h with h | ⟨a, o, e1, e2, q⟩
  · exact fz_dp h l e
  · subst e1
    subst e2
    cases o with
    | ins c fs => simp [O.frz, D.py] at e
    | lst xs =>
      obtain ⟨vs, q1, q2⟩ := q
      unfold O.frz at e
      unfold D.py at e
      cases q : D.pys xs with
      | none => rw [q] at e; cases e
      | some ps =>
        rw [q] at e
        cases e
        exact .lst (.inl (.inl q1)) (fzl_dp q2 l q)
theorem eqD_some {d e : D} {b : Bool} (h : eqD d e = some b) : ∃ p q, d.py = some p ∧ e.py = some q ∧ SeqAt.shaped p = true ∧ SeqAt.shaped q = true ∧ b = PyData.eqv p q := by
  unfold eqD at h
  split at h
  · rename_i p q e1 e2
    split at h
    · rename_i hz
      cases h
      exact ⟨p, q, e1, e2, hz.1, hz.2, rfl⟩
    · cases h
  · cases h
theorem o_eq (hK : X.K = F.G.K) : OpS F fEq (rEqD X.K) := by
  intro Φ H σ τ tm v w d e s Q rl hd he hf k
  unfold fEq at hf
  obtain ⟨b, e1, rfl⟩ := Option.map_eq_some_iff.mp hf
  obtain ⟨p, q, p1, p2, s1, s2, rfl⟩ := eqD_some e1
  rw [hK]
  exact ⟨p, q, rd_dp hd rl.le p1, rd_dp he rl.le p2, s1, s2, k _ _ _ (rl.val (.bl _))⟩
theorem o_ne (hK : X.K = F.G.K) : OpS F fNe (rNeD X.K) := by
  intro Φ H σ τ tm v w d e s Q rl hd he hf k
  unfold fNe at hf
  obtain ⟨b, e1, rfl⟩ := Option.map_eq_some_iff.mp hf
  obtain ⟨p, q, p1, p2, s1, s2, rfl⟩ := eqD_some e1
  rw [hK]
  exact ⟨p, q, rd_dp hd rl.le p1, rd_dp he rl.le p2, s1, s2, k _ _ _ (rl.val (.bl _))⟩
theorem rd_isN {v : V} {d : D} (h : Rdv F Φ H v d) : decide (v = .non) = isNon d := by
  rcases h with h | ⟨a, o, e1, e2, q⟩
  · cases h <;> rfl
  · subst e1 e2
    cases o <;> rfl
theorem isN_eq {d : D} (h : isNon d = true) : d = .non := by
  cases d <;> first | rfl | cases h
theorem o_isN : OpS F fIsN (fun x y H Q => y = .non ∧ Q (.bl (decide (x = .non))) H) := by
  intro Φ H σ τ tm v w d e s Q rl hd he hf k
  unfold fIsN at hf
  split at hf
  · rename_i hz
    rw [isN_eq hz] at he
    exact ⟨he.non, by rw [rd_isN hd]; exact fin_bool rl hf k⟩
  · cases hf
theorem o_notN : OpS F fNotN (fun x y H Q => y = .non ∧ Q (.bl (!decide (x = .non))) H) := by
  intro Φ H σ τ tm v w d e s Q rl hd he hf k
  unfold fNotN at hf
  split at hf
  · rename_i hz
    rw [isN_eq hz] at he
    exact ⟨he.non, by rw [rd_isN hd]; exact fin_bool rl hf k⟩
  · cases hf
theorem atI_get {G : Gx} {vs : List V} {ds : List D} {i : Int} {d : D} (q : FzL G Φ vs ds) (h : atI ds i = some d) : ∃ v, atI vs i = some v ∧ Fz G Φ v d := by
  unfold atI at h ⊢
  rw [q.length]
  cases e : ixN ds.length i with
  | none => rw [e] at h; cases h
  | some j =>
    rw [e] at h
    exact FzL.get q h
theorem o_ix (hK : X.K = F.G.K) : OpS F fIx (rIx X.K) := by
  intro Φ H σ τ tm v w d e s Q rl hd he hf k
  unfold fIx at hf
  split at hf
  · obtain ⟨x, e1, rfl⟩ := Option.map_eq_some_iff.mp hf
    obtain ⟨a, vs, e2, e3, q⟩ := hd.lst rl.le
    obtain ⟨y, e4, q2⟩ := atI_get q e1
    exact .inl ⟨a, vs, _, y, e2, he.int, .inl (.inl e3), e4, k _ _ _ (rl.val q2)⟩
  · obtain ⟨x, e1, rfl⟩ := Option.map_eq_some_iff.mp hf
    obtain ⟨a, vs, e2, e3, q⟩ := hd.tup rl.le
    obtain ⟨y, e4, q2⟩ := atI_get q e1
    exact .inr (.inl ⟨a, vs, _, y, e2, he.int, by rw [hK]; exact e3, e4, k _ _ _ (rl.val q2)⟩)
  · obtain ⟨x, e1, rfl⟩ := Option.map_eq_some_iff.mp hf
    obtain ⟨a, vs, e2, e3, q⟩ := hd.scr rl.le
    obtain ⟨y, e4, q2⟩ := atI_get q e1
    exact .inl ⟨a, vs, _, y, e2, he.int, by rw [hK]; exact e3, e4, k _ _ _ (rl.val q2)⟩
  · split at hf
    · rename_i hz
      obtain ⟨x, e1, rfl⟩ := Option.map_eq_some_iff.mp hf
      exact .inr (.inr ⟨_, _, x, hd.str, he.int, hz, e1, k _ _ _ (rl.val (.str _))⟩)
    · cases hf
  · cases hf
theorem rd1 {vs : List V} {d : D} (h : RdAll F Φ H vs [d]) : ∃ v, vs = [v] ∧ Rdv F Φ H v d := by
  cases h with
  | cons h t => cases t; exact ⟨_, rfl, h⟩
theorem rd2 {vs : List V} {d e : D} (h : RdAll F Φ H vs [d, e]) : ∃ v w, vs = [v, w] ∧ Rdv F Φ H v d ∧ Rdv F Φ H w e := by
  cases h with
  | cons h t => obtain ⟨w, rfl, q⟩ := rd1 t; exact ⟨_, _, rfl, h, q⟩
theorem c_len (hK : X.K = F.G.K) : CaS F fLen (fun xs H Q => ∃ x n, xs = [x] ∧ LenV X.K x H n ∧ Q (.int n) H) := by
  intro Φ H σ τ tm vs ds s Q rl hd hf k
  unfold fLen at hf
  split at hf
  · obtain ⟨v, rfl, h⟩ := rd1 hd
    obtain ⟨a, ws, e2, e3, q⟩ := h.lst rl.le
    subst e2
    exact ⟨_, ws.length, rfl, .inl ⟨ws, .inl (.inl e3), rfl⟩, by rw [q.length]; exact fin_int rl hf k⟩
  · obtain ⟨v, rfl, h⟩ := rd1 hd
    obtain ⟨a, ws, e2, e3, q⟩ := h.tup rl.le
    subst e2
    exact ⟨_, ws.length, rfl, .inr ⟨ws, by rw [hK]; exact e3, rfl⟩, by rw [q.length]; exact fin_int rl hf k⟩
  · obtain ⟨v, rfl, h⟩ := rd1 hd
    obtain ⟨a, ws, e2, e3, q⟩ := h.scr rl.le
    subst e2
    exact ⟨_, ws.length, rfl, .inl ⟨ws, by rw [hK]; exact e3, rfl⟩, by rw [q.length]; exact fin_int rl hf k⟩
  · split at hf
    · rename_i hz
      obtain ⟨v, rfl, h⟩ := rd1 hd
      have := h.str
      subst this
      exact ⟨_, _, rfl, ⟨hz, rfl⟩, fin_int rl hf k⟩
    · cases hf
  · cases hf
theorem c_abs : CaS F fAbs (fun xs H Q => ∃ i, xs = [.int i] ∧ Q (.int (if i < 0 then -i else i)) H) := by
  intro Φ H σ τ tm vs ds s Q rl hd hf k
  unfold fAbs at hf
  split at hf
  · obtain ⟨v, rfl, h⟩ := rd1 hd
    exact ⟨_, by rw [h.int], fin_int rl hf k⟩
  · cases hf
theorem c_int : CaS F fInt (fun xs H Q => (∃ i, xs = [.int i] ∧ Q (.int i) H) ∨ ∃ k, xs = [.bl k] ∧ Q (.int (if k then 1 else 0)) H) := by
  intro Φ H σ τ tm vs ds s Q rl hd hf k
  unfold fInt at hf
  split at hf
  · obtain ⟨v, rfl, h⟩ := rd1 hd
    exact .inl ⟨_, by rw [h.int], fin_int rl hf k⟩
  · obtain ⟨v, rfl, h⟩ := rd1 hd
    exact .inr ⟨_, by rw [h.bl], fin_int rl hf k⟩
  · cases hf
theorem c_bool : CaS F fBool (fun xs H Q => (∃ i, xs = [.int i] ∧ Q (.bl (i != 0)) H) ∨ ∃ k, xs = [.bl k] ∧ Q (.bl k) H) := by
  intro Φ H σ τ tm vs ds s Q rl hd hf k
  unfold fBool at hf
  split at hf
  · obtain ⟨v, rfl, h⟩ := rd1 hd
    exact .inl ⟨_, by rw [h.int], fin_bool rl hf k⟩
  · obtain ⟨v, rfl, h⟩ := rd1 hd
    exact .inr ⟨_, by rw [h.bl], fin_bool rl hf k⟩
  · cases hf
theorem c_list (hK : X.K = F.G.K) : CaS F fList (fun xs H Q => ∃ p ys, xs = [.ref p] ∧ (SqL X.K H p ys ∨ SqT X.K H p ys) ∧ ∀ l, H l = none → Q (.ref l) (upd H l (.lst ys))) := by
  intro Φ H σ τ tm vs ds s Q rl hd hf k
  unfold fList at hf
  split at hf
  · obtain ⟨v, rfl, h⟩ := rd1 hd
    obtain ⟨a, ws, e2, e3, q⟩ := h.lst rl.le
    subst e2
    cases hf
    exact ⟨a, ws, rfl, .inl (.inl (.inl e3)), fun l hl => k _ _ _ (rl.mine hl q)⟩
  · obtain ⟨v, rfl, h⟩ := rd1 hd
    obtain ⟨a, ws, e2, e3, q⟩ := h.tup rl.le
    subst e2
    cases hf
    exact ⟨a, ws, rfl, .inr (by rw [hK]; exact e3), fun l hl => k _ _ _ (rl.mine hl q)⟩
  · obtain ⟨v, rfl, h⟩ := rd1 hd
    obtain ⟨a, ws, e2, e3, q⟩ := h.scr rl.le
    subst e2
    cases hf
    exact ⟨a, ws, rfl, .inl (by rw [hK]; exact e3), fun l hl => k _ _ _ (rl.mine hl q)⟩
  · cases hf
theorem c_tuple (hK : X.K = F.G.K) : CaS F fTuple (fun xs H Q => ∃ p ys, xs = [.ref p] ∧ ((SqL X.K H p ys ∧ ∀ l, H l = none → Q (.ref l) (upd H l (.tup ys))) ∨ (SqT X.K H p ys ∧ Q (.ref p) H))) := by
  intro Φ H σ τ tm vs ds s Q rl hd hf k
  unfold fTuple at hf
  split at hf
  · obtain ⟨v, rfl, h⟩ := rd1 hd
    obtain ⟨a, ws, e2, e3, q⟩ := h.lst rl.le
    subst e2
    cases hf
    exact ⟨a, ws, rfl, .inl ⟨.inl (.inl e3), fun l hl => k _ _ _ (rl.tuple hl q)⟩⟩
  · obtain ⟨v, rfl, h⟩ := rd1 hd
    obtain ⟨a, ws, e2, e3, q⟩ := h.scr rl.le
    subst e2
    cases hf
    exact ⟨a, ws, rfl, .inl ⟨by rw [hK]; exact e3, fun l hl => k _ _ _ (rl.tuple hl q)⟩⟩
  · obtain ⟨v, rfl, h⟩ := rd1 hd
    cases hf
    rcases h with h | ⟨a, o, e1, e2, q⟩
    · cases h with
      | tup h t => exact ⟨_, _, rfl, .inr ⟨by rw [hK]; exact SqT.le h rl.le, k _ _ _ (rl.val (.tup h t))⟩⟩
    · cases o <;> cases e2
  · cases hf
theorem bools_fz {G : Gx} : ∀ {xs : List D} {vs : List V} {bs : List Bool}, FzL G Φ vs xs → bools xs = some bs → vs = bs.map V.bl
  | [], _, bs, h, e => by cases h; cases e; rfl
  | d :: ds, _, bs, h, e => by
    cases h with
    | cons h t =>
      cases d with
      | bl b =>
        cases q : bools ds with
        | none => simp [bools, q] at e
        | some cs =>
          simp [bools, q] at e
          subst e
          cases h
          rw [bools_fz t q]
          rfl
      | _ => simp [bools] at e
theorem ints_fz {G : Gx} : ∀ {xs : List D} {vs : List V} {bs : List Int}, FzL G Φ vs xs → intsD xs = some bs → vs = bs.map V.int
  | [], _, bs, h, e => by cases h; cases e; rfl
  | d :: ds, _, bs, h, e => by
    cases h with
    | cons h t =>
      cases d with
      | int b =>
        cases q : intsD ds with
        | none => simp [intsD, q] at e
        | some cs =>
          simp [intsD, q] at e
          subst e
          cases h
          rw [ints_fz t q]
          rfl
      | _ => simp [intsD] at e
theorem c_all (hK : X.K = F.G.K) : CaS F fAll (rAll X.K) := by
  intro Φ H σ τ tm vs ds s Q rl hd hf k
  unfold fAll at hf
  split at hf
  · obtain ⟨v, rfl, h⟩ := rd1 hd
    obtain ⟨a, ws, e2, e3, q⟩ := h.lst rl.le
    subst e2
    obtain ⟨bs, e4, rfl⟩ := Option.map_eq_some_iff.mp hf
    rw [bools_fz q e4] at e3
    exact ⟨a, bs, rfl, .inl (.inl e3), k _ _ _ (rl.val (.bl _))⟩
  · cases hf
theorem c_any (hK : X.K = F.G.K) : CaS F fAny (rAny X.K) := by
  intro Φ H σ τ tm vs ds s Q rl hd hf k
  unfold fAny at hf
  split at hf
  · obtain ⟨v, rfl, h⟩ := rd1 hd
    obtain ⟨a, ws, e2, e3, q⟩ := h.lst rl.le
    subst e2
    obtain ⟨bs, e4, rfl⟩ := Option.map_eq_some_iff.mp hf
    rw [bools_fz q e4] at e3
    exact ⟨a, bs, rfl, .inl (.inl e3), k _ _ _ (rl.val (.bl _))⟩
  · cases hf
theorem c_sum (hK : X.K = F.G.K) : CaS F fSum (rSum X.K) := by
  intro Φ H σ τ tm vs ds s Q rl hd hf k
  unfold fSum at hf
  split at hf
  · obtain ⟨v, rfl, h⟩ := rd1 hd
    obtain ⟨a, ws, e2, e3, q⟩ := h.lst rl.le
    subst e2
    obtain ⟨bs, e4, rfl⟩ := Option.map_eq_some_iff.mp hf
    rw [ints_fz q e4] at e3
    exact ⟨a, bs, rfl, .inl (.inl e3), k _ _ _ (rl.val (.int _))⟩
  · cases hf
end
end Mi

/-! ### M5: statements -/
namespace Mi
open PySem PySem.Spec PyProof.Rows L2

inductive Fl where
  | nx | rt (s : S) | bk | ct
def Quiet (tm : Env1) : Prop := ∀ p ∈ tm, p.2.noali
def FlK (F : Fm) (D : Ends) (tm : Env1) (f : Fl) (τ' : List S) : Prop := match f with
  | .nx => ∀ σ' H' Φ', Rl F Φ' H' σ' τ' tm → D.nx σ' H'
  | .bk => ∀ σ' H' Φ', Rl F Φ' H' σ' τ' tm → D.bk σ' H'
  | .ct => ∀ σ' H' Φ', Rl F Φ' H' σ' τ' tm → D.ct σ' H'
  | .rt s => ∀ v σ' H' Φ', Rl F Φ' H' σ' τ' ((some v, s) :: tm) → D.rt v H'
def TSm (F : Fm) (W : WX) (m : M Fl) : L2.TS := fun D σ H => ∃ Φ τ tm, Quiet tm ∧ Rl F Φ H σ τ tm ∧ Wp F W tm (m τ) (FlK F D tm)
abbrev SM (X : Cx) (F : Fm) (W : WX) (st : Stmt) (m : M Fl) : Prop := PS X st (TSm F W m)
abbrev BlM (X : Cx) (F : Fm) (W : WX) (st : List Stmt) (m : M Fl) : Prop := PSs X st (TSm F W m)

section
variable {X : Cx} {F : Fm} {W : WX} {Φ Φ' H H' : Hp} {σ : L2.St} {τ τ' : List S} {tm : Env1}
theorem ts_go {D : Ends} {m : M Fl} {tm0 : Env1} {P : Fl → List S → Prop} (qt : Quiet tm) (r : Rl F Φ H σ τ tm) (h : Wp F W tm0 (m τ) P)
    (nx : ∀ τ1 σ1 H1 Φ1, P .nx τ1 → Rl F Φ1 H1 σ1 τ1 tm → D.nx σ1 H1) (bk : ∀ τ1 σ1 H1 Φ1, P .bk τ1 → Rl F Φ1 H1 σ1 τ1 tm → D.bk σ1 H1)
    (ct : ∀ τ1 σ1 H1 Φ1, P .ct τ1 → Rl F Φ1 H1 σ1 τ1 tm → D.ct σ1 H1) (rt : ∀ s τ1 v σ1 H1 Φ1, P (.rt s) τ1 → Rl F Φ1 H1 σ1 τ1 ((some v, s) :: tm) → D.rt v H1) (sub : Subp tm0 tm := by repeat (first | exact Subp.of (List.Sublist.refl _) | apply Subp.cons' | apply Subp.app')) : TSm F W m D σ H :=
  ⟨Φ, τ, tm, qt, r, (h.air sub).mono fun f τ1 p => by
    cases f with
    | nx => exact fun σ' H' Φ' r' => nx τ1 σ' H' Φ' p r'
    | bk => exact fun σ' H' Φ' r' => bk τ1 σ' H' Φ' p r'
    | ct => exact fun σ' H' Φ' r' => ct τ1 σ' H' Φ' p r'
    | rt s => exact fun v σ' H' Φ' r' => rt s τ1 v σ' H' Φ' p r'⟩
def sNil : M Fl := M.ret .nx
def sSeq (m n : M Fl) : M Fl := M.bnd m fun f => match f with
  | .nx => n
  | .bk => M.ret .bk
  | .ct => M.ret .ct
  | .rt s => M.ret (.rt s)
variable {st : Stmt} {rest : List Stmt} {m n : M Fl} {e : Expr} {ma mb : M S} {pos : Pos}
theorem bl_nil : BlM X F W [] sNil := PSs.imp pss_nil fun D σ H ⟨Φ, τ, tm, qt, r, h⟩ => h σ H Φ r
theorem bl_cons (h1 : SM X F W st m) (h2 : BlM X F W rest n) : BlM X F W (st :: rest) (sSeq m n) := PSs.imp (pss_cons h1 h2) fun D σ H ⟨Φ, τ, tm, qt, r, h⟩ =>
  ts_go (D := { D with nx := TSm F W n D }) qt r h.bnd (fun τ1 σ1 H1 Φ1 p r1 => ⟨Φ1, τ1, tm, qt, r1, p⟩) (fun τ1 σ1 H1 Φ1 p r1 => p σ1 H1 Φ1 r1) (fun τ1 σ1 H1 Φ1 p r1 => p σ1 H1 Φ1 r1) fun s τ1 v σ1 H1 Φ1 p r1 => p v σ1 H1 Φ1 r1
theorem bl_one (h1 : SM X F W st m) : BlM X F W [st] m := pss_one h1
def sBreak : M Fl := M.ret .bk
def sCont : M Fl := M.ret .ct
theorem sm_pass : SM X F W (.Pass pos) sNil := PS.imp ps_pass fun D σ H ⟨Φ, τ, tm, qt, r, h⟩ => h σ H Φ r
theorem sm_break : SM X F W (.Break pos) sBreak := PS.imp ps_break fun D σ H ⟨Φ, τ, tm, qt, r, h⟩ => h σ H Φ r
theorem sm_continue : SM X F W (.Continue pos) sCont := PS.imp ps_continue fun D σ H ⟨Φ, τ, tm, qt, r, h⟩ => h σ H Φ r
theorem sm_doc {x j pos'} : SM X F W (.Expr (.Constant (.str x) j pos) pos') sNil := PS.imp ps_doc fun D σ H ⟨Φ, τ, tm, qt, r, h⟩ => h σ H Φ r
def sExpr (ma : M S) : M Fl := M.bnd ma fun _ => M.ret .nx
theorem sm_expr (he : EM X F W e ma) (hs : swapsWith e none pos.line X.env = pure false := by rfl) : SM X F W (.Expr e pos) (sExpr ma) := PS.imp (ps_expr he hs) fun D σ H ⟨Φ, τ, tm, qt, r, h⟩ => te_go r h.bnd fun s τ1 v H1 Φ1 p r1 => p σ H1 Φ1 r1.tl
/-- what goes into a name: a value, or what is ours alone -/
def give (s : S) : M S := match s with
  | .own o => M.ret (.own o)
  | s => M.bnd (take s) fun d => M.ret (.val d)
theorem give_cases {tm0 : Env1} {s : S} {K : S → List S → Prop} {v : V} (r : Rl F Φ H σ τ ((some v, s) :: tm)) (h : Wp F W tm0 (give s τ) K) : ∃ s' τ' Φ', s'.noali ∧ Rl F Φ' H σ τ' ((some v, s') :: tm) ∧ K s' τ' := by
  have gen : Wp F W tm0 (M.bnd (take s) (fun d => M.ret (S.val d)) τ) K → ∃ s' τ' Φ', s'.noali ∧ Rl F Φ' H σ τ' ((some v, s') :: tm) ∧ K s' τ' := fun h => by
    obtain ⟨d, τ1, e, k⟩ := take_cases h.bnd
    obtain ⟨Φ1, r1⟩ := Rl.taken r e
    exact ⟨.val d, τ1, Φ1, trivial, r1, k⟩
  cases s with
  | own o => exact ⟨.own o, τ, Φ, trivial, r, h⟩
  | raw => exact gen h
  | non => exact gen h
  | val d => exact gen h
  | lent j o => exact gen h
  | ali i => exact gen h
def sAsg (i : Nat) (ma : M S) : M Fl := M.bnd ma fun s => M.bnd (give s) fun s' => fun τ => .ok (.nx, τ.set i s')
theorem sm_set (i : Nat) {x : Str} {pos' : Pos} (hN : X.N.Nodup) (he : EM X F W e ma) (hi : X.N[i]? = some x := by rfl) (hx : Loc X.env.scope x := by first | exact Or.inl rfl | exact Or.inr rfl) (hs : swapsWith e (some (.Name x pos')) pos.line X.env = pure false := by rfl) (hf : X.fn x = true ∨ X.env.scope.names.lookup x = some .local := by first | exact .inl rfl | exact .inr rfl | assumption) :
    SM X F W (.Assign [.Name x pos'] e pos) (sAsg i ma) := PS.imp (ps_set hN hi hx he hs hf) fun D σ H ⟨Φ, τ, tm, qt, r, h⟩ => te_go r h.bnd fun s τ1 v H1 Φ1 p r1 => by
  obtain ⟨s', τ2, Φ2, na, r2, k⟩ := give_cases r1 p.bnd
  exact k _ _ _ (r2.store na qt i)
def sRet (ma : M S) : M Fl := M.bnd ma fun s => M.bnd (give s) fun s' => M.ret (.rt s')
theorem sm_ret (he : EM X F W e ma) : SM X F W (.Return (some e) pos) (sRet ma) := PS.imp (ps_ret he) fun D σ H ⟨Φ, τ, tm, qt, r, h⟩ => te_go r h.bnd fun s τ1 v H1 Φ1 p r1 => by
  obtain ⟨s', τ2, Φ2, na, r2, k⟩ := give_cases r1 p.bnd
  exact k v σ H1 Φ2 r2
def sRetN : M Fl := M.ret (.rt (.val .non))
theorem sm_retN : SM X F W (.Return none pos) sRetN := PS.imp ps_retN fun D σ H ⟨Φ, τ, tm, qt, r, h⟩ => h .non σ H Φ (r.val .non)
def sIf (c : M Bool) (m n : M Fl) : M Fl := M.bnd c fun b => if b = true then m else n
theorem sm_if {c : Expr} {mc : M Bool} {a b : List Stmt} (hc : BM X F W c mc) (ha : BlM X F W a m) (hb : BlM X F W b n) : SM X F W (.If c a b pos) (sIf mc m n) := PS.imp (ps_if hc ha hb) fun D σ H ⟨Φ, τ, tm, qt, r, h⟩ => tb_go r h.bnd fun b τ1 H1 Φ1 p r1 => by
  cases b with
  | true => rw [if_pos rfl] at p ⊢; exact ⟨Φ1, τ1, tm, qt, r1, p⟩
  | false => rw [if_neg Bool.false_ne_true] at p ⊢; exact ⟨Φ1, τ1, tm, qt, r1, p⟩

/-! #### targets -/
/-- a target; what it does with slots -/
abbrev MG := S → M Unit
/-- nothing but these slots differs -/
structure But (is : List Nat) (σ σ' : L2.St) : Prop where
  len : σ'.length = σ.length
  at_ : ∀ j, j ∉ is → σ'[j]? = σ[j]?
theorem But.trans {is js : List Nat} {σ σ' σ'' : L2.St} (a : But is σ σ') (b : But js σ' σ'') : But (is ++ js) σ σ'' := ⟨b.len.trans a.len, fun j h => by
  rw [b.at_ j (fun z => h (List.mem_append_right _ z)), a.at_ j (fun z => h (List.mem_append_left _ z))]⟩
def TGm (F : Fm) (W : WX) (is : List Nat) (g : MG) : L2.TG := fun v σ H Q => ∃ Φ τ tm s, s.noali ∧ Quiet tm ∧ Rl F Φ H σ τ ((some v, s) :: tm) ∧ Wp F W tm (g s τ) fun _ τ' => ∀ σ' H' Φ', Rl F Φ' H' σ' τ' tm → But is σ σ' → Q σ' H'
abbrev GM (X : Cx) (F : Fm) (W : WX) (t : Expr) (is : List Nat) (g : MG) : Prop := PG X t (TGm F W is g)
def air (vs : List V) (ds : List D) : Env1 := (vs.map some).zip (ds.map S.val)
def TGsm (F : Fm) (W : WX) (is : List Nat) (g : List D → M Unit) : L2.TGs := fun vs σ H Q => ∃ Φ τ tm ds, vs.length = ds.length ∧ Quiet tm ∧ Rl F Φ H σ τ (air vs ds ++ tm) ∧ Wp F W tm (g ds τ) fun _ τ' => ∀ σ' H' Φ', Rl F Φ' H' σ' τ' tm → But is σ σ' → Q σ' H'
theorem PG.imp {t : Expr} {g g' : L2.TG} (h : PG X t g) (i : ∀ v σ H Q, g' v σ H Q → g v σ H Q) : PG X t g' := ⟨fun pins s σ H v u Q I r q => h.run pins s σ H v u Q I r (i _ _ _ _ q)⟩
theorem PGs.imp {t : List Expr} {g g' : L2.TGs} (h : PGs X t g) (i : ∀ v σ H Q, g' v σ H Q → g v σ H Q) : PGs X t g' := ⟨fun pins s σ H v u Q I r q => h.run pins s σ H v u Q I r (i _ _ _ _ q)⟩
def gNam (i : Nat) : MG := fun s τ => .ok ((), τ.set i s)
theorem gm_name (i : Nat) {x : Str} (hN : X.N.Nodup) (hi : X.N[i]? = some x := by rfl) (hx : Loc X.env.scope x := by first | exact Or.inl rfl | exact Or.inr rfl) (hf : X.fn x = true ∨ X.env.scope.names.lookup x = some .local := by first | exact .inl rfl | exact .inr rfl | assumption) : GM X F W (.Name x pos) [i] (gNam i) :=
  PG.imp (pg_name hN hi hx hf) fun v σ H Q ⟨Φ, τ, tm, s, na, nt, r, h⟩ => h _ _ _ (r.store na nt i) ⟨List.length_set, fun j hj => List.getElem?_set_ne (fun e => hj (by rw [e]; exact List.mem_singleton.mpr rfl))⟩
/-- the items of a list or tuple that is unpacked -/
def unpk (n : Nat) : D → Option (List D)
  | .tup ds => if ds.length = n then some ds else none
  | .lst ds => if ds.length = n then some ds else none
  | _ => none
def gsEnd : List D → M Unit
  | [] => M.ret ()
  | _ :: _ => fun _ => .stuck
def gsCons (g : MG) (gs : List D → M Unit) : List D → M Unit
  | d :: ds => M.bnd (g (.val d)) fun _ => gs ds
  | [] => fun _ => .stuck
theorem gsm_nil : PGs X [] (TGsm F W [] gsEnd) := PGs.imp pgs_nil fun vs σ H Q ⟨Φ, τ, tm, ds, l, nt, r, h⟩ => by
  cases ds with
  | nil =>
    have e : vs = [] := List.length_eq_zero_iff.mp l
    subst e
    exact ⟨rfl, h σ H Φ r ⟨rfl, fun _ _ => rfl⟩⟩
  | cons _ _ => exact h.elim
theorem quiet_air {vs : List V} {ds : List D} (nt : Quiet tm) : Quiet (air vs ds ++ tm) := fun p hp => by
  rcases List.mem_append.mp hp with h | h
  · have := (List.of_mem_zip h).2
    obtain ⟨d, _, e⟩ := List.mem_map.mp this
    rw [← e]
    trivial
  · exact nt p h
theorem gsm_cons {t : Expr} {ts : List Expr} {is js : List Nat} {g : MG} {gs : List D → M Unit} (h1 : GM X F W t is g) (h2 : PGs X ts (TGsm F W js gs)) (hs : (assignEach (t :: ts) X.env).map (·.2) = assign t X.env :: (assignEach ts X.env).map (·.2) := by rfl) : PGs X (t :: ts) (TGsm F W (is ++ js) (gsCons g gs)) :=
  PGs.imp (pgs_cons h1 h2 hs) fun vs σ H Q ⟨Φ, τ, tm, ds, l, nt, r, h⟩ => by
    cases ds with
    | nil => exact h.elim
    | cons d ds =>
      cases vs with
      | nil => cases l
      | cons v vs =>
        exact ⟨v, vs, rfl, Φ, τ, air vs ds ++ tm, .val d, trivial, quiet_air nt, r, ((Wp.bnd h).air (Subp.app' (Subp.of (List.Sublist.refl _)))).mono fun _ τ1 p σ1 H1 Φ1 r1 b1 => ⟨Φ1, τ1, tm, ds, by simpa using l, nt, r1, Wp.mono p fun _ τ2 q σ2 H2 Φ2 r2 b2 => q σ2 H2 Φ2 r2 (b1.trans b2)⟩⟩
theorem Rl.vals (r : Rl F Φ H σ τ tm) : ∀ {vs : List V} {ds : List D}, FzL F.G Φ vs ds → Rl F Φ H σ τ (Mi.air vs ds ++ tm)
  | _, _, .nil => r
  | _, _, .cons h t => (Rl.vals r t).val h
/-- (a, b, ..) = a tuple, or a list, of that length -/
def gTupM (n : Nat) (gs : List D → M Unit) : MG := fun s => M.bnd (peek s) fun d => M.bnd (M.of (unpk n d)) gs
theorem gm_tup {es : List Expr} {k : Nat} {is : List Nat} {gs : List D → M Unit} (n : Nat) (hK : X.K = F.G.K) (hc : X.calm = true) (h : PGs X es (TGsm F W is gs)) (hn : (assignEach es X.env).length = n := by rfl) (hst : (assignEach es X.env).findIdx? (·.1) = none := by rfl) : GM X F W (.Tuple es k pos) is (gTupM n gs) := by
  have two : PG X (.Tuple es k pos) (fun v σ H Q => gTup X.K n (TGsm F W is gs) v σ H Q ∨ gLst X.K n (TGsm F W is gs) v σ H Q) := ⟨fun pins s σ H v u Q I r q => q.elim (fun q => (pg_tup hc h hn hst).run pins s σ H v u Q I r q) fun q => (pg_lst hc h hn hst).run pins s σ H v u Q I r q⟩
  refine PG.imp two fun v σ H Q ⟨Φ, τ, tm, s, na, nt, r, h⟩ => ?_
  obtain ⟨d, e1, h1⟩ := Wp.peek (Wp.bnd h)
  obtain ⟨ds, e2, h2⟩ := Wp.of (Wp.bnd h1)
  have rd := r.peek r.hd e1
  unfold unpk at e2
  split at e2
  · split at e2
    · rename_i hz
      cases e2
      obtain ⟨a, vs, e3, e4, q⟩ := rd.tup r.le
      exact .inl ⟨a, vs, e3, by rw [hK]; exact e4, by rw [q.length]; exact hz, Φ, τ, tm, ds, q.length, nt, r.tl.vals q, h2⟩
    · cases e2
  · split at e2
    · rename_i hz
      cases e2
      obtain ⟨a, vs, e3, e4, q⟩ := rd.lst r.le
      exact .inr ⟨a, vs, e3, .inl (.inl e4), by rw [q.length]; exact hz, Φ, τ, tm, ds, q.length, nt, r.tl.vals q, h2⟩
    · cases e2
  · cases e2
/-- target = value -/
def sAsgT (g : MG) (ma : M S) : M Fl := M.bnd ma fun s => M.bnd (give s) fun s' => M.bnd (g s') fun _ => M.ret .nx
theorem sm_asg {t : Expr} {is : List Nat} {g : MG} (he : EM X F W e ma) (hg : GM X F W t is g) (hs : swapsWithSole [t] e pos.line X.env = pure false := by rfl) (hw : swappedStores [t] e X.env = pure none := by rfl)
    (h1 : (assignEach [t] X.env).map (·.2) = [assign t X.env] := by rfl) : SM X F W (.Assign [t] e pos) (sAsgT g ma) := PS.imp (ps_asg he hg hs hw h1) fun D σ H ⟨Φ, τ, tm, qt, r, h⟩ => te_go r h.bnd fun s τ1 v H1 Φ1 p r1 => by
  obtain ⟨s', τ2, Φ2, na, r2, k⟩ := give_cases r1 p.bnd
  exact ⟨Φ2, τ2, tm, s', na, qt, r2, (Wp.bnd k).mono fun _ τ3 p σ3 H3 Φ3 r3 _ => p σ3 H3 Φ3 r3⟩
/-- a, b = x, y with plain local names -/
def sPar (i j : Nat) (ms : M (List S)) : M Fl := M.bnd ms fun ss => match ss with
  | [s, t] => M.bnd (give s) fun s' => M.bnd (give t) fun t' => fun τ => .ok (.nx, (τ.set i s').set j t')
  | _ => fun _ => .stuck
theorem sm_par (i j : Nat) {x y : Str} {a b : Expr} {ms : M (List S)} {px py pt : Pos} {kt k2 pt2} (hc : X.calm = true) (hN : X.N.Nodup) (ha : LM X F W [a, b] ms) (hi : X.N[i]? = some x := by rfl) (hj : X.N[j]? = some y := by rfl) (hij : i ≠ j := by decide)
    (hx : X.env.scope.names.lookup x = some .local := by rfl) (hy : X.env.scope.names.lookup y = some .local := by rfl)
    (hw : swappedStores [.Tuple [.Name x px, .Name y py] kt pt] (.Tuple [a, b] k2 pt2) X.env = pure (some [x, y]) := by rfl)
    (hs : swapsWithSole [.Tuple [.Name x px, .Name y py] kt pt] (.Tuple [a, b] k2 pt2) pos.line X.env = pure false := by rfl) :
    SM X F W (.Assign [.Tuple [.Name x px, .Name y py] kt pt] (.Tuple [a, b] k2 pt2) pos) (sPar i j ms) := PS.imp (ps_par hc hN hi hj hij hx hy ha hw hs) fun D σ H ⟨Φ, τ, tm, qt, r, h⟩ => tl_go r h.bnd fun ss τ1 vs H1 Φ1 p l r1 => by
  cases ss with
  | nil => exact p.elim
  | cons s ss =>
    cases ss with
    | nil => exact p.elim
    | cons t ss =>
      cases ss with
      | cons _ _ => exact p.elim
      | nil =>
        obtain ⟨v, w, rfl⟩ : ∃ v w, vs = [v, w] := by
          cases vs with
          | nil => cases l
          | cons v vs =>
            cases vs with
            | nil => cases l
            | cons w vs =>
              cases vs with
              | nil => exact ⟨v, w, rfl⟩
              | cons _ _ => cases l
        refine ⟨v, w, rfl, ?_⟩
        obtain ⟨s', τ2, Φ2, n1, r2, k1⟩ := give_cases r1 (Wp.bnd p)
        obtain ⟨t', τ3, Φ3, n2, r3, k2⟩ := give_cases (tm := (some v, s') :: tm) (r2.air (.perm (List.Perm.swap _ _ _))) (Wp.bnd k1)
        have r4 := (r3.air (tm' := (some v, s') :: (some w, t') :: tm) (.perm (List.Perm.swap _ _ _))).store n1 (fun p hp => by
          cases hp with
          | head => exact n2
          | tail _ h => exact qt p h) i
        exact k2 _ _ _ (r4.store n2 qt j)
end
end Mi

/-! ### M6: what is ours is written; defs and their calls -/
namespace Mi
open PySem PySem.Spec PyProof.Rows L2

/-- the same kind of slot with another content -/
inductive Kin : S → S → O → O → Prop
  | own (o o' : O) : Kin (.own o) (.own o') o o'
  | lent (j : Nat) (o o' : O) : Kin (.lent j o) (.lent j o') o o'
section
variable {F : Fm} {W : WX} {Φ Φ' H H' : Hp} {σ : L2.St} {τ τ' : List S} {tm : Env1}
theorem Rl.write (r : Rl F Φ H σ τ tm) {k : Nat} {s s' : S} {a : Addr} {o o' : O} (e : τ[k]? = some s) (es : σ[k]? = some (some (.ref a))) (ks : Kin s s' o o') (l : Le Φ Φ') (l' : Le Φ' H')
    (kp : ∀ b u, H b = some u → b ≠ a → (∀ ps, u ≠ .tbl ps) → H' b = some u) (n : ∀ b u, Φ' b = some u → Φ b = some u ∨ H b = none) (t : TabsN F.G.T Φ' H') (d : ∀ b, H' b = none → H b = none)
    (w : Ow F.G Φ' H' a o') (fa : Φ' a = none) : Rl F Φ' H' σ (τ.set k s') tm := by
  have hi : k < τ.length := (List.getElem?_eq_some_iff.mp e).1
  have hs : σ.set k (some (V.ref a)) = σ := by
    apply List.ext_getElem?
    intro j
    by_cases hj : k = j
    · subst hj
      rw [List.getElem?_set_self (by rw [r.len]; exact hi)]
      exact es.symm
    · rw [List.getElem?_set_ne hj]
  have hz : σ.zip (τ.set k s') = (σ.zip τ).set k (some (.ref a), s') := by
    rw [← zip_set, hs]
  have ix : (σ.zip τ)[k]? = some (some (.ref a), s) := by
    rw [List.getElem?_zip_eq_some]
    exact ⟨es, e⟩
  have hit : k < (σ.zip τ).length := (List.getElem?_eq_some_iff.mp ix).1
  have sz : both σ (τ.set k s') tm = (both σ τ tm).set k (some (.ref a), s') := by
    show σ.zip (τ.set k s') ++ tm = (σ.zip τ ++ tm).set k _
    rw [hz, List.set_append_left _ _ hit]
  have ei : (both σ τ tm)[k]? = some (some (.ref a), s) := by
    rw [List.getElem?_append_left hit]; exact ix
  obtain ⟨li, gi⟩ := List.getElem?_eq_some_iff.mp ei
  have hold : holds (some (.ref a), s) = some a := by cases ks <;> rfl
  have hold' : holds (some (.ref a), s') = some a := by cases ks <;> rfl
  have na : s'.noali := by cases ks <;> trivial
  have one0 : One F Φ H σ τ (some (.ref a), s) := r.one _ (List.mem_of_getElem? ei)
  have ow : ∃ o, Ow F.G Φ H a o := (one0.own hold).2
  have ap : ∀ (j : Nat) p, (both σ τ tm)[j]? = some p → j ≠ k → holds p ≠ some a := fun j p hj ne => by
    have pw := List.pairwise_iff_getElem.mp r.nd
    obtain ⟨lj, gj⟩ := List.getElem?_eq_some_iff.mp hj
    intro hp
    rcases Nat.lt_or_gt_of_ne ne with q | q
    · have := pw j k lj li q
      rw [gi, gj] at this
      exact this a hp hold
    · have := pw k j li lj q
      rw [gi, gj] at this
      exact this a hold hp
  have nota : ∀ b u, F.H0 b = some u → (∀ j, F.P j ≠ some b) → b ≠ a := fun b u h1 h2 q => by
    subst q
    cases ks with
    | own => obtain ⟨x, e1, _, _, e2⟩ := one0; cases e1; rw [h1] at e2; cases e2
    | lent j => obtain ⟨x, e1, _, _, e2⟩ := one0; cases e1; exact h2 j e2
  refine ⟨by rw [List.length_set]; exact r.len, r.fl.set na k, r.le0.trans l, l', fun b u h1 h2 h3 => kp b u (r.pres b u h1 h2 h3) (nota b u h1 h2) h3, fun b h => r.dom b (d b h), fun b u h => ?_, fun p hp => ?_, ?_, t⟩
  · rcases n b u h with q | q
    · exact r.new b u q
    · exact .inr (r.dom b q)
  · rw [sz] at hp
    obtain ⟨j, lj, gj⟩ := List.getElem_of_mem hp
    rw [List.length_set] at lj
    by_cases hj : k = j
    · subst hj
      rw [List.getElem_set_self] at gj
      rw [← gj]
      cases ks with
      | own => obtain ⟨x, e1, _, _, e2⟩ := one0; cases e1; exact ⟨a, rfl, w, fa, e2⟩
      | lent i => obtain ⟨x, e1, _, _, e2⟩ := one0; cases e1; exact ⟨a, rfl, w, fa, e2⟩
    · rw [List.getElem_set_ne hj] at gj
      have gj' : (both σ τ tm)[j]? = some p := by rw [List.getElem?_eq_getElem lj, gj]
      have op := r.one p (by rw [← gj]; exact List.getElem_mem _)
      have o1 : One F Φ' H' σ τ p := op.step l fun b hb => by
        have ne : b ≠ a := fun q => ap j p gj' (Ne.symm hj) (by rw [← q]; exact hb)
        refine ⟨fun u h1 h2 => kp b u h1 ne h2, ?_⟩
        obtain ⟨q1, ob, q2⟩ := op.own hb
        obtain ⟨u, q3, _⟩ := q2.there
        cases q : Φ' b with
        | none => rfl
        | some z =>
          rcases n b z q with y | y
          · rw [q1] at y; cases y
          · rw [q3] at y; cases y
      obtain ⟨pv, ps⟩ := p
      cases ps with
      | ali i =>
        obtain ⟨x, s2, f1, f2, f3, f4⟩ := o1
        by_cases hk : k = i
        · subst hk
          refine ⟨x, s', f1, f2, ?_, ?_⟩
          · rw [List.getElem?_set_self hi]
          · cases ks <;> trivial
        · exact ⟨x, s2, f1, f2, by rw [List.getElem?_set_ne hk]; exact f3, f4⟩
      | raw => exact o1
      | non => exact o1
      | val _ => exact o1
      | own _ => exact o1
      | lent _ _ => exact o1
  · rw [sz, List.pairwise_iff_getElem]
    have pw := List.pairwise_iff_getElem.mp r.nd
    intro i j hi' hj' lt
    rw [List.length_set] at hi' hj'
    by_cases h1 : k = i
    · subst h1
      rw [List.getElem_set_self, List.getElem_set_ne (by omega)]
      intro b hb hq
      rw [hold'] at hb
      cases hb
      exact ap j _ (List.getElem?_eq_getElem hj') (by omega) hq
    · rw [List.getElem_set_ne h1]
      by_cases h2 : k = j
      · subst h2
        rw [List.getElem_set_self]
        intro b hb hq
        rw [hold'] at hq
        cases hq
        exact ap i _ (List.getElem?_eq_getElem hi') (by omega) hb
      · rw [List.getElem_set_ne h2]
        exact pw i j hi' hj' lt
theorem tabs_write {T : List (Addr × Str)} {a : Addr} {u u' : HO} (t : LamX.Tabs T H) (h : H a = some u) (h1 : ∀ ps, u ≠ .tbl ps) (h2 : ∀ φ, u ≠ .ext φ) : LamX.Tabs T (upd H a u') := fun p hp => by
  obtain ⟨ps, e1, e2, e3⟩ := t p hp
  have n1 : p.1 ≠ a := fun q => by
    rw [q, h] at e1
    cases e1
    exact h1 ps rfl
  refine ⟨ps, by rw [upd_ne n1]; exact e1, e2, fun pos cv hc => ?_⟩
  obtain ⟨c, e4, e5⟩ := e3 pos cv hc
  have n2 : c ≠ a := fun q => by
    rw [q, h] at e5
    cases e5
    exact h2 _ rfl
  exact ⟨c, e4, by rw [upd_ne n2]; exact e5⟩
/-- one object of ours is written -/
theorem Rl.wrote (r : Rl F Φ H σ τ tm) {k : Nat} {s s' : S} {a : Addr} {o o' : O} {u u' : HO} (e : τ[k]? = some s) (es : σ[k]? = some (some (.ref a))) (ks : Kin s s' o o') (h : H a = some u) (h1 : ∀ ps, u ≠ .tbl ps) (h2 : ∀ φ, u ≠ .ext φ) (w : Ow F.G Φ (upd H a u') a o') : Rl F Φ (upd H a u') σ (τ.set k s') tm := by
  have hold : holds (some (.ref a), s) = some a := by cases ks <;> rfl
  obtain ⟨v, e1, em, o1⟩ := r.at e
  rw [es] at e1
  cases e1
  have fa := (o1.own hold).1
  exact r.write e es ks (Le.refl _) (fun b z q => by
    rw [upd_ne (fun x => by rw [x, fa] at q; cases q)]
    exact r.le _ _ q) (fun b z q ne _ => by rw [upd_ne ne]; exact q) (fun b z q => .inl q) ⟨tabs_write r.tabs.1 h h1 h2, r.tabs.2⟩ (fun b q => by
    by_cases x : b = a
    · subst x; rw [upd_same] at q; cases q
    · rw [upd_ne x] at q; exact q) w fa

/-! #### the promise of a def -/
def argS : S → Prop
  | .val _ => True
  | .lent _ _ => True
  | _ => False
abbrev Fn := List S → R (S × List S)
def spM (G : Gx) (n : Nat) (mf : Fn) : Sp := fun vs H Q E => ∃ Φ P ss, ss.length = n ∧ Rl ⟨G, Φ, H, P, none⟩ Φ H (vs.map some) ss [] ∧ (∀ s ∈ ss, argS s) ∧ match mf ss with
  | .ok (r, ss') => ∀ v H' Φ', Rl ⟨G, Φ, H, P, none⟩ Φ' H' (vs.map some) ss' [(some v, r)] → Q v H'
  | .exc c fs ss' => ∀ cls d H' Φ', Rl ⟨G, Φ, H, P, none⟩ Φ' H' (vs.map some) ss' [] → ExR ⟨G, Φ, H, P, none⟩ Φ' H' cls d c fs → E cls d H'
  | .stuck => False
/-- what was lent, as it is handed back -/
def back : List S → List S → Option (List S)
  | [], _ => some []
  | .lent j _ :: ss, .lent j' o :: τ => if j = j' then (back ss τ).map (.lent j o :: ·) else none
  | .lent _ _ :: _, _ => none
  | _ :: ss, _ :: τ => (back ss τ).map (.non :: ·)
  | _ :: _, [] => none
def retS : S → Bool
  | .val _ => true
  | .own _ => true
  | _ => false
def runFn (np n : Nat) (m : M Fl) : Fn := fun ss => if ¬ ss.length = np then .stuck else match m (ss ++ List.replicate (n - ss.length) .non) with
  | .ok (f, τ) => (match f with
    | .nx => (match back ss τ with
      | some ss' => .ok (.val .non, ss')
      | none => .stuck)
    | .rt s => if retS s = true then (match back ss τ with
      | some ss' => .ok (s, ss')
      | none => .stuck) else .stuck
    | _ => .stuck)
  | .exc c fs τ => (match back ss τ with
    | some ss' => .exc c fs ss'
    | none => .stuck)
  | .stuck => .stuck
/-- item by item the same, or nothing of ours -/
inductive Thin : Env1 → Env1 → Prop
  | nil (l : Env1) : Thin l l
  | keep {p : Option V × S} {l' l : Env1} : Thin l' l → Thin (p :: l') (p :: l)
  | drop {p q : Option V × S} {l' l : Env1} : p.2 = .non → Thin l' l → Thin (p :: l') (q :: l)
  | skip {q : Option V × S} {l' l : Env1} : Thin l' l → Thin l' (q :: l)
theorem Thin.mem {l' l : Env1} (h : Thin l' l) : ∀ p ∈ l', p ∈ l ∨ p.2 = .non := by
  induction h with
  | nil l => exact fun p hp => .inl hp
  | keep _ ih =>
    intro p hp
    rcases List.mem_cons.mp hp with e | hp
    · rw [e]; exact .inl List.mem_cons_self
    · exact (ih p hp).imp (List.mem_cons_of_mem _) id
  | drop e _ ih =>
    intro p hp
    rcases List.mem_cons.mp hp with e' | hp
    · rw [e']; exact .inr e
    · exact (ih p hp).imp (List.mem_cons_of_mem _) id
  | skip _ ih => exact fun p hp => (ih p hp).imp (List.mem_cons_of_mem _) id
theorem holds_non' {p : Option V × S} (h : p.2 = .non) : holds p = none := by
  obtain ⟨v, s⟩ := p
  simp only at h
  subst h
  exact holds_non
theorem Thin.pw {l' l : Env1} (h : Thin l' l) (w : l.Pairwise Apart) : l'.Pairwise Apart := by
  induction h with
  | nil l => exact w
  | keep t ih =>
    obtain ⟨w1, w2⟩ := List.pairwise_cons.mp w
    refine List.pairwise_cons.mpr ⟨fun q hq => ?_, ih w2⟩
    rcases t.mem q hq with z | z
    · exact w1 q z
    · exact (apart_none (holds_non' z)).symm
  | drop e t ih => exact List.pairwise_cons.mpr ⟨fun q hq => apart_none (holds_non' e), ih (List.pairwise_cons.mp w).2⟩
  | skip _ ih => exact ih (List.pairwise_cons.mp w).2
theorem Thin.one {l' l : Env1} (h : Thin l' l) (w : ∀ p ∈ l, One F Φ H σ τ p) : ∀ p ∈ l', One F Φ H σ τ p := fun p hp => by
  rcases h.mem p hp with z | z
  · exact w p z
  · obtain ⟨v, s⟩ := p
    simp only at z
    subst z
    trivial
theorem Thin.skips : ∀ (k l : Env1), Thin l (k ++ l)
  | [], l => .nil l
  | _ :: k, l => .skip (Thin.skips k l)
/-- what was lent stands where it stood -/
def LentAt (P : Nat → Option Addr) : List V → List S → Prop
  | v :: vs, .lent j _ :: ss => (∃ a, v = .ref a ∧ P j = some a) ∧ LentAt P vs ss
  | _ :: vs, _ :: ss => LentAt P vs ss
  | _, _ => True
theorem back_thin : ∀ {vs : List V} {ss τ ss' : List S} {σ : L2.St} {tm : Env1}, vs.length = ss.length → σ.length = τ.length → LentAt F.P vs ss → back ss τ = some ss' → (∀ p ∈ σ.zip τ, ∀ j o, p.2 = .lent j o → ∃ a, p.1 = some (.ref a) ∧ F.P j = some a) →
    Thin ((vs.map some).zip ss' ++ tm) (σ.zip τ ++ tm) ∧ ss'.length = vs.length ∧ Flat ss'
  | vs, [], τ, ss', σ, tm, l, _, _, e, _ => by
    cases e
    have : vs = [] := List.length_eq_zero_iff.mp l
    subst this
    exact ⟨Thin.skips _ _, rfl, fun _ h => nomatch h⟩
  | [], _ :: _, _, _, _, _, l, _, _, _, _ => by cases l
  | v :: vs, s :: ss, [], ss', σ, tm, l, _, _, e, _ => by cases s <;> cases e
  | v :: vs, s :: ss, t :: τ, ss', [], tm, l, l2, _, e, _ => by cases l2
  | v :: vs, s :: ss, t :: τ, ss', x :: σ, tm, l, l2, la, e, pl => by
    have pl' : ∀ p ∈ σ.zip τ, ∀ j o, p.2 = .lent j o → ∃ a, p.1 = some (.ref a) ∧ F.P j = some a := fun p hp => pl p (List.mem_cons_of_mem _ hp)
    have plain : ∀ ss1, back ss τ = some ss1 → ss' = .non :: ss1 → LentAt F.P vs ss → Thin (((v :: vs).map some).zip ss' ++ tm) ((x :: σ).zip (t :: τ) ++ tm) ∧ ss'.length = (v :: vs).length ∧ Flat ss' := fun ss1 e1 e2 la1 => by
      subst e2
      obtain ⟨h1, h2, h3⟩ := back_thin (tm := tm) (by simpa using l) (by simpa using l2) la1 e1 pl'
      refine ⟨.drop rfl h1, by simp [h2], fun s hs => ?_⟩
      rcases List.mem_cons.mp hs with q | q
      · rw [q]; trivial
      · exact h3 s q
    have go : ∀ {o : Option (List S)}, (o.map (S.non :: ·)) = some ss' → ∃ ss1, o = some ss1 ∧ ss' = .non :: ss1 := fun {o} h => by
      obtain ⟨a, b, c⟩ := Option.map_eq_some_iff.mp h
      exact ⟨a, b, c.symm⟩
    cases s with
    | lent j o =>
      cases t with
      | lent j' o' =>
        unfold back at e
        split at e
        · rename_i ej
          subst ej
          obtain ⟨ss1, e1, e2⟩ := Option.map_eq_some_iff.mp e
          subst e2
          obtain ⟨⟨a, ea, pa⟩, la1⟩ := la
          obtain ⟨h1, h2, h3⟩ := back_thin (tm := tm) (by simpa using l) (by simpa using l2) la1 e1 pl'
          obtain ⟨b, eb, pb⟩ := pl (x, .lent j o') List.mem_cons_self j o' rfl
          rw [pa] at pb
          cases pb
          simp only at eb
          subst eb ea
          refine ⟨.keep h1, by simp [h2], fun s hs => ?_⟩
          rcases List.mem_cons.mp hs with q | q
          · rw [q]; trivial
          · exact h3 s q
        · cases e
      | _ => cases e
    | raw => obtain ⟨ss1, e1, e2⟩ := go (show (back ss τ).map _ = _ from e); exact plain ss1 e1 e2 la
    | non => obtain ⟨ss1, e1, e2⟩ := go (show (back ss τ).map _ = _ from e); exact plain ss1 e1 e2 la
    | val d => obtain ⟨ss1, e1, e2⟩ := go (show (back ss τ).map _ = _ from e); exact plain ss1 e1 e2 la
    | own o => obtain ⟨ss1, e1, e2⟩ := go (show (back ss τ).map _ = _ from e); exact plain ss1 e1 e2 la
    | ali i => obtain ⟨ss1, e1, e2⟩ := go (show (back ss τ).map _ = _ from e); exact plain ss1 e1 e2 la
theorem lentAt_of : ∀ {vs : List V} {ss : List S}, (∀ p ∈ (vs.map some).zip ss, ∀ j o, p.2 = .lent j o → ∃ a, p.1 = some (.ref a) ∧ F.P j = some a) → LentAt F.P vs ss
  | [], _, _ => trivial
  | _ :: _, [], _ => trivial
  | v :: vs, s :: ss, h => by
    have ih := lentAt_of (vs := vs) (ss := ss) fun p hp => h p (List.mem_cons_of_mem _ hp)
    cases s with
    | lent j o =>
      obtain ⟨a, e, p⟩ := h (some v, .lent j o) List.mem_cons_self j o rfl
      cases e
      exact ⟨⟨a, rfl, p⟩, ih⟩
    | raw => exact ih
    | non => exact ih
    | val _ => exact ih
    | own _ => exact ih
    | ali _ => exact ih
theorem Rl.lents (r : Rl F Φ H σ τ tm) : ∀ p ∈ σ.zip τ, ∀ j o, p.2 = .lent j o → ∃ a, p.1 = some (.ref a) ∧ F.P j = some a := fun p hp j o e => by
  have q := r.one p (List.mem_append_left _ hp)
  obtain ⟨v, s⟩ := p
  simp only at e
  subst e
  obtain ⟨a, e1, _, _, e2⟩ := q
  exact ⟨a, e1, e2⟩
theorem Rl.backed (r : Rl F Φ H σ τ tm) (nt : Quiet tm) {vs : List V} {ss ss' : List S} (l : vs.length = ss.length) (la : LentAt F.P vs ss) (e : back ss τ = some ss') : Rl F Φ H (vs.map some) ss' tm := by
  obtain ⟨h1, h2, h3⟩ := back_thin (tm := tm) l r.len la e r.lents
  refine ⟨by rw [List.length_map, h2], h3, r.le0, r.le, r.pres, r.dom, r.new, fun p hp => ?_, h1.pw r.nd, r.tabs⟩
  refine (h1.one r.one p hp).slots ?_
  rcases List.mem_append.mp hp with q | q
  · exact h3 _ (List.of_mem_zip q).2
  · exact nt p q
theorem zip_replicate {α β : Type} (x : α) (y : β) (n : Nat) : (List.replicate n x).zip (List.replicate n y) = List.replicate n (x, y) := by
  induction n with
  | zero => rfl
  | succ n ih => rw [List.replicate_succ, List.replicate_succ, List.replicate_succ, List.zip_cons_cons, ih]
theorem Rl.start (r : Rl F Φ H (vs.map some) ss []) (N : List Str) (hf : ∀ s ∈ ss, argS s) : Rl F Φ H (L2.start N vs) (ss ++ List.replicate (N.length - ss.length) .non) [] := by
  have l : vs.length = ss.length := by simpa using r.len
  have z : (L2.start N vs).zip (ss ++ List.replicate (N.length - ss.length) .non) = (vs.map some).zip ss ++ List.replicate (N.length - ss.length) (none, S.non) := by
    unfold L2.start
    rw [l, List.zip_append (by simp [l]), zip_replicate]
  have nn : ∀ p ∈ List.replicate (N.length - ss.length) ((none : Option V), S.non), p = (none, .non) := fun p hp => List.eq_of_mem_replicate hp
  refine ⟨by unfold L2.start; simp [l], fun s hs => ?_, r.le0, r.le, r.pres, r.dom, r.new, fun p hp => ?_, ?_, r.tabs⟩
  · rcases List.mem_append.mp hs with q | q
    · exact r.fl s q
    · rw [List.eq_of_mem_replicate q]; trivial
  · rw [both, List.append_nil, z] at hp
    rcases List.mem_append.mp hp with q | q
    · exact (r.one p (List.mem_append_left _ q)).slots (r.fl _ (List.of_mem_zip q).2)
    · rw [nn p q]; trivial
  · rw [both, List.append_nil, z, List.pairwise_append]
    refine ⟨(List.pairwise_append.mp r.nd).1, ?_, fun p _ q hq => ?_⟩
    · refine List.Pairwise.imp_of_mem (fun {a b} ha _ _ => ?_) (List.pairwise_replicate.mpr (.inr trivial) : (List.replicate _ ((none : Option V), S.non)).Pairwise (fun _ _ => True))
      rw [nn a ha]
      exact apart_none rfl
    · rw [nn q hq]
      exact (apart_none (p := ((none : Option V), S.non)) rfl).symm
end

/-- a body, mirrored, keeps the promise -/
theorem body_sp {P : Program} {w : World} {mg : Str → Option Value} {base : Heap} {G : Gx} {qual : Str} {scope : Scope} {bdy : List Stmt} {f : Addr} {N ps : List Str} {k : Nat} {m : M Fl} {cdv : Value} (Sc : FnScope N ps scope) {A : Around} {outer : List Env} {s : Shared} {vs : List V} {H : Hp} {Q : VK} {E : XK}
    (hr : Room k (A.deeper (envOfC qual scope s.heap.objs.size f cdv))) (h : spM G ps.length (runFn ps.length N.length m) vs H Q E)
    (body : ∀ (F : Fm), F.G = G → Fits (cxOf (L2.CX P w) P w G.K mg base N qual scope f cdv A outer s H E) F (fun cls d _ H => E cls d H) → BlM (cxOf (L2.CX P w) P w G.K mg base N qual scope f cdv A outer s H E) F (fun cls d _ H => E cls d H) bdy m) :
    ∃ t, PSs (cxOf (L2.CX P w) P w G.K mg base N qual scope f cdv A outer s H E) bdy t ∧ t { nx := fun _ H' => Q .non H', rt := Q } (L2.start N vs) H := by
  obtain ⟨Φ, Pl, ss, l, r, ha, h⟩ := h
  have tk : Takes (cxOf (L2.CX P w) P w G.K mg base N qual scope f cdv A outer s H E) (fun cls d _ H => E cls d H) := takes_of rfl rfl rfl rfl
  have po : PassesOwn (model P w) (cxOf (L2.CX P w) P w G.K mg base N qual scope f cdv A outer s H E).A (cxOf (L2.CX P w) P w G.K mg base N qual scope f cdv A outer s H E).env (cxOf (L2.CX P w) P w G.K mg base N qual scope f cdv A outer s H E).xe := passes_of (X := cxOf (L2.CX P w) P w G.K mg base N qual scope f cdv A outer s H E) rfl
  refine ⟨_, body ⟨G, Φ, H, Pl, none⟩ rfl ⟨rfl, Sc.nd, rfl, tk, po⟩, Φ, _, [], (fun _ h => nomatch h), r.start N ha, ?_⟩
  have lv : vs.length = ss.length := by simpa using r.len
  have la : LentAt Pl vs ss := lentAt_of (F := ⟨G, Φ, H, Pl, none⟩) r.lents
  generalize hm : m (ss ++ List.replicate (N.length - ss.length) .non) = o
  unfold runFn at h
  rw [if_neg (Decidable.not_not.mpr l), hm] at h
  cases o with
  | stuck => exact h.elim
  | exc c fs τ =>
    intro cls d σ' H' Φ' r' x'
    cases e : back ss τ with
    | none => simp only [e] at h
    | some ss' =>
      simp only [e] at h
      exact h cls d H' Φ' (r'.backed (fun _ h => nomatch h) lv la e) x'
  | ok p =>
    obtain ⟨f, τ⟩ := p
    cases f with
    | bk => exact h.elim
    | ct => exact h.elim
    | nx =>
      intro σ' H' Φ' r'
      cases e : back ss τ with
      | none => simp only [e] at h
      | some ss' =>
        simp only [e] at h
        exact h .non H' Φ' ((r'.backed (fun _ h => nomatch h) lv la e).val .non)
    | rt s' =>
      intro v σ' H' Φ' r'
      cases q : retS s' with
      | false => simp only [q, Bool.false_eq_true, if_false] at h
      | true =>
        simp only [q, if_true] at h
        cases e : back ss τ with
        | none => simp only [e] at h
        | some ss' =>
          simp only [e] at h
          refine h v H' Φ' (r'.backed (fun p hp => ?_) lv la e)
          cases hp with
          | head => cases s' <;> first | trivial | cases q
          | tail _ hp => cases hp
end Mi

/-! ### M7: calls of defs -/
namespace Mi
open PySem PySem.Spec PyProof.Rows L2

/-- f(..), every argument a plain value -/
def eCallV (mf : Fn) (ms : M (List S)) : M S := M.bnd ms fun ss => M.bnd (takeAll ss) fun ds => fun τ => match mf (ds.map S.val) with
  | .ok (r, _) => .ok (r, τ)
  | .exc c fs _ => .exc c fs τ
  | .stuck => .stuck
/-- how what was lent comes back into the slot k -/
def hand (k : Nat) (mk : O → S) (τ : List S) (out : List S) : Option (List S) := match out with
  | .lent _ o :: _ => some (τ.set k (mk o))
  | _ => none
def lendTo (mf : Fn) (k : Nat) (o : O) (mk : O → S) (ds : List D) (τ : List S) : R (S × List S) := match mf (.lent 0 o :: ds.map S.val) with
  | .ok (r, out) => (match hand k mk τ out with
    | some τ' => .ok (r, τ')
    | none => .stuck)
  | .exc c fs out => (match hand k mk τ out with
    | some τ' => .exc c fs τ'
    | none => .stuck)
  | .stuck => .stuck
/-- f(x, ..), the first argument lent -/
def eCallL (mf : Fn) (ms : M (List S)) : M S := M.bnd ms fun ss => match ss with
  | .ali k :: rest => M.bnd (takeAll rest) fun ds => fun τ => match τ[k]? with
    | some (.own o) => lendTo mf k o .own ds τ
    | some (.lent j o) => lendTo mf k o (.lent j) ds τ
    | _ => .stuck
  | _ => fun _ => .stuck
section
variable {F : Fm} {W : WX} {Φ Φ' H H' : Hp} {σ σc : L2.St} {τ τ' ssc : List S} {tm tmc : Env1}
/-- behind a call that was lent nothing -/
theorem Rl.after0 {P : Nat → Option Addr} (r : Rl F Φ H σ τ tm) (c : Rl ⟨F.G, Φ, H, P, none⟩ Φ' H' σc ssc tmc) (hP : ∀ n, P n = none) : Rl F Φ' H' σ τ tm :=
  r.grow c.le0 c.le (fun b o h h2 => c.pres b o h (fun j z => by rw [show (⟨F.G, Φ, H, P, none⟩ : Fm).P j = P j from rfl, hP j] at z; cases z) h2) (fun b o h => c.new b o h) c.tabs c.dom
/-- what the callee hands back joins -/
theorem Rl.handed {P : Nat → Option Addr} {r' : S} {v : V} (r : Rl F Φ' H' σ τ tm) (r0 : ∀ b, H b = none → F.H0 b = none) (there : ∀ p ∈ both σ τ tm, ∀ a, holds p = some a → H a ≠ none) (o : One ⟨F.G, Φ, H, P, none⟩ Φ' H' σc ssc (some v, r')) (n : retS r' = true) : Rl F Φ' H' σ τ ((some v, r') :: tm) := by
  cases r' with
  | val d =>
    obtain ⟨x, e, q⟩ := o
    cases e
    exact r.val q
  | own ob =>
    obtain ⟨a, e, q1, q2, q3⟩ := o
    cases e
    refine r.put (p := (some (.ref a), .own ob)) ⟨a, rfl, q1, q2, r0 a q3⟩ fun q hq b hb hb2 => ?_
    cases hb
    exact there q hq a hb2 q3
  | raw => cases n
  | non => cases n
  | ali i => cases n
  | lent j o => cases n
theorem Rl.there (r : Rl F Φ H σ τ tm) : ∀ p ∈ both σ τ tm, ∀ a, holds p = some a → H a ≠ none := fun p hp a ha z => by
  obtain ⟨_, o, q⟩ := (r.one p hp).own ha
  obtain ⟨u, e, _⟩ := q.there
  rw [z] at e; cases e
theorem runFn_ret {np n : Nat} {m : M Fl} {ss ss' : List S} {r : S} (h : runFn np n m ss = .ok (r, ss')) : retS r = true := by
  unfold runFn at h
  split at h
  · cases h
  split at h
  · split at h
    · split at h
      · cases h; rfl
      · cases h
    · split at h
      · rename_i q
        split at h
        · cases h; exact q
        · cases h
      · cases h
    · cases h
  · split at h <;> cases h
  · cases h
/-- a callee's mirror gives values or what is new -/
def Proper (mf : Fn) : Prop := ∀ ss r ss', mf ss = .ok (r, ss') → retS r = true
theorem proper_run {np n : Nat} {m : M Fl} : Proper (runFn np n m) := fun _ _ _ h => runFn_ret h
theorem arity_run {np n : Nat} {m : M Fl} : ∀ ss, runFn np n m ss ≠ .stuck → ss.length = np := fun ss h => by
  unfold runFn at h
  split at h
  · exact absurd rfl h
  · rename_i z
    exact Decidable.not_not.mp z
/-- the frame of a callee that is lent nothing -/
theorem Rl.enter0 (r : Rl F Φ H σ τ tm) {vs : List V} {ds : List D} (q : FzL F.G Φ vs ds) : Rl ⟨F.G, Φ, H, fun _ => none, none⟩ Φ H (vs.map some) (ds.map S.val) [] := by
  have base : Rl ⟨F.G, Φ, H, fun _ => none, none⟩ Φ H ([] : L2.St) [] [] := ⟨rfl, (fun _ h => nomatch h), Le.refl _, r.le, (fun b o h _ _ => h), (fun b h => h), (fun b o h => .inl h), (fun _ h => nomatch h), List.Pairwise.nil, r.tabs⟩
  have b2 := base.vals q
  rw [List.append_nil] at b2
  refine ⟨by rw [List.length_map, List.length_map, q.length], fun s hs => ?_, b2.le0, b2.le, b2.pres, b2.dom, b2.new, fun p hp => ?_, ?_, b2.tabs⟩
  · obtain ⟨d, _, e⟩ := List.mem_map.mp hs
    rw [← e]; trivial
  · rw [both, List.append_nil] at hp
    refine (b2.one p hp).slots ?_
    obtain ⟨d, _, e⟩ := List.mem_map.mp (List.of_mem_zip hp).2
    rw [← e]; trivial
  · rw [both, List.append_nil]
    exact b2.nd
theorem t_callV {mf : Fn} {ms : M (List S)} {n : Nat} {Q : VK} (pr : Proper mf) (hn : ∀ ds : List D, mf (ds.map S.val) ≠ .stuck → ds.length = n) (h : TEm F W (eCallV mf ms) σ H Q) : TLm F W ms σ H fun vs H1 => spM F.G n mf vs H1 Q (WE W σ) := by
  obtain ⟨Φ, τ, tm, rl, h⟩ := h
  refine tl_go rl h.bnd fun ss τ1 vs H1 Φ1 p1 l r1 => ?_
  obtain ⟨ds, τ2, e, p2⟩ := takeAll_cases (Wp.bnd p1)
  obtain ⟨Φ2, r2, q⟩ := Rl.takenAll l r1 e
  have ne : mf (ds.map S.val) ≠ .stuck := fun z => by
    unfold Wp at p2
    rw [z] at p2
    exact p2
  refine ⟨Φ2, fun _ => none, ds.map S.val, by rw [List.length_map]; exact hn ds ne, r2.enter0 q, fun s hs => ?_, ?_⟩
  · obtain ⟨d, _, e⟩ := List.mem_map.mp hs
    rw [← e]; trivial
  · cases hm : mf (ds.map S.val) with
    | stuck => exact ne hm
    | ok p =>
      obtain ⟨r, out⟩ := p
      rw [hm] at p2
      intro v H' Φ' c
      have r3 := r2.after0 c fun _ => rfl
      exact p2 v H' Φ' (r3.handed (H := H1) (P := fun _ => none) r2.dom (fun p hp a ha => r2.there p hp a ha) c.hd (pr _ _ _ hm))
    | exc c fs out =>
      rw [hm] at p2
      intro cls d H' Φ' c1 x
      have r3 := r2.after0 c1 fun _ => rfl
      exact p2 cls d σ H' Φ' r3 x
theorem Rl.enter1 (r : Rl F Φ H σ τ tm) {vs : List V} {ds : List D} {a : Addr} {o : O} (q : FzL F.G Φ vs ds) (w : Ow F.G Φ H a o) (fa : Φ a = none) : Rl ⟨F.G, Φ, H, fun n => if n = 0 then some a else none, none⟩ Φ H ((V.ref a :: vs).map some) (.lent 0 o :: ds.map S.val) [] := by
  have base : Rl ⟨F.G, Φ, H, fun n => if n = 0 then some a else none, none⟩ Φ H ([] : L2.St) [] [] := ⟨rfl, (fun _ h => nomatch h), Le.refl _, r.le, (fun b o h _ _ => h), (fun b h => h), (fun b o h => .inl h), (fun _ h => nomatch h), List.Pairwise.nil, r.tabs⟩
  have b1 := base.vals q
  rw [List.append_nil] at b1
  have b2 : Rl ⟨F.G, Φ, H, fun n => if n = 0 then some a else none, none⟩ Φ H ([] : L2.St) [] ((some (.ref a), .lent 0 o) :: Mi.air vs ds) := b1.put (p := (some (.ref a), .lent 0 o)) ⟨a, rfl, w, fa, rfl⟩ fun p hp b hb hq => by
    have := (List.of_mem_zip (show p ∈ (vs.map some).zip (ds.map S.val) from hp)).2
    obtain ⟨d, _, e⟩ := List.mem_map.mp this
    obtain ⟨pv, ps⟩ := p
    simp only at e
    subst e
    rw [holds_val] at hq
    cases hq
  have na : ∀ s ∈ (S.lent 0 o :: ds.map S.val), s.noali := fun s hs => by
    rcases List.mem_cons.mp hs with e | hs
    · rw [e]; trivial
    · obtain ⟨d, _, e⟩ := List.mem_map.mp hs
      rw [← e]; trivial
  refine ⟨by simp [q.length], na, b2.le0, b2.le, b2.pres, b2.dom, b2.new, fun p hp => ?_, ?_, b2.tabs⟩
  · rw [both, List.append_nil] at hp
    exact (b2.one p hp).slots (na _ (List.of_mem_zip hp).2)
  · rw [both, List.append_nil]
    exact b2.nd
theorem lend_ok {mf : Fn} {Q : VK} {k : Nat} {o : O} {mk : O → S} {a : Addr} {s : S} {n : Nat} {vs : List V} {ds : List D} (pr : Proper mf) (hn : ds.length + 1 = n) (r : Rl F Φ H σ τ tm) (q : FzL F.G Φ vs ds) (e : τ[k]? = some s) (es : σ[k]? = some (some (.ref a))) (ks : ∀ o', Kin s (mk o') o o')
    (h : Wp F W tm (lendTo mf k o mk ds τ) fun s τ' => ∀ v H' Φ', Rl F Φ' H' σ τ' ((some v, s) :: tm) → Q v H') : spM F.G n mf (.ref a :: vs) H Q (WE W σ) := by
  have hold : holds (some (.ref a), s) = some a := by
    have := ks o
    generalize mk o = mo at this
    cases this <;> rfl
  obtain ⟨v, e1, em, o1⟩ := r.at e
  rw [es] at e1
  cases e1
  have fa := (o1.own hold).1
  have w : Ow F.G Φ H a o := by
    have := ks o
    generalize mk o = mo at this
    cases this with
    | own => obtain ⟨x, e2, w, _⟩ := o1; cases e2; exact w
    | lent => obtain ⟨x, e2, w, _⟩ := o1; cases e2; exact w
  have back : ∀ {Φ' H' : Hp} {out : List S} {τ' : List S} {tmc : Env1}, Rl ⟨F.G, Φ, H, fun n => if n = 0 then some a else none, none⟩ Φ' H' ((V.ref a :: vs).map some) out tmc → hand k mk τ out = some τ' → Rl F Φ' H' σ τ' tm := fun {Φ' H' out τ' tmc} c hh => by
    unfold hand at hh
    split at hh
    · rename_i j o' rest
      cases hh
      obtain ⟨b, e2, w2, fb, pb⟩ := c.one (some (.ref a), .lent j o') (List.mem_append_left _ (by
        show _ ∈ ((some (V.ref a)) :: vs.map some).zip (.lent j o' :: rest)
        exact List.mem_cons_self))
      cases e2
      refine r.write e es (ks o') c.le0 c.le (fun b u h1 ne h2 => c.pres b u h1 (fun j z => ?_) h2) (fun b u h1 => c.new b u h1) c.tabs c.dom w2 fb
      by_cases hj : j = 0
      · have z' : some a = some b := by rw [← z]; exact (if_pos hj).symm
        cases z'; exact ne rfl
      · have z' : none = some b := by rw [← z]; exact (if_neg hj).symm
        cases z'
    · cases hh
  refine ⟨Φ, _, .lent 0 o :: ds.map S.val, by simpa using hn, r.enter1 q w fa, fun s hs => ?_, ?_⟩
  · rcases List.mem_cons.mp hs with e | hs
    · rw [e]; trivial
    · obtain ⟨d, _, e⟩ := List.mem_map.mp hs
      rw [← e]; trivial
  · unfold lendTo at h
    cases hm : mf (.lent 0 o :: ds.map S.val) with
    | stuck => rw [hm] at h; exact h.elim
    | ok p =>
      obtain ⟨r', out⟩ := p
      rw [hm] at h
      simp only at h
      intro v H' Φ' c
      cases hh : hand k mk τ out with
      | none => rw [hh] at h; exact h.elim
      | some τ' =>
        rw [hh] at h
        have r3 := back c hh
        refine h v H' Φ' (r3.handed (H := H) (P := fun n => if n = 0 then some a else none) r.dom (fun p hp b hb => ?_) c.hd (pr _ _ _ hm))
        -- whatever is ours behind the call was there ahead of it
        intro z
        have pm : p ∈ both σ τ' tm := hp
        unfold hand at hh
        split at hh
        · rename_i j o' rest
          cases hh
          have hi : k < τ.length := (List.getElem?_eq_some_iff.mp e).1
          rcases List.mem_append.mp pm with pm | pm
          · have hs : σ.set k (some (V.ref a)) = σ := by
              apply List.ext_getElem?
              intro j
              by_cases hj : k = j
              · subst hj
                rw [List.getElem?_set_self (by rw [r.len]; exact hi)]
                exact es.symm
              · rw [List.getElem?_set_ne hj]
            have hz : σ.zip (τ.set k (mk o')) = (σ.zip τ).set k (some (.ref a), mk o') := by
              rw [← zip_set, hs]
            rw [hz] at pm
            rcases List.mem_or_eq_of_mem_set pm with pm | pm
            · exact r.there p (List.mem_append_left _ pm) b hb z
            · rw [pm] at hb
              have hb' : b = a := by
                have := ks o'
                generalize mk o' = mo at this hb
                cases this <;> (cases hb; rfl)
              obtain ⟨u, e3, _⟩ := w.there
              rw [hb', e3] at z; cases z
          · exact r.there p (List.mem_append_right _ pm) b hb z
        · cases hh
    | exc c fs out =>
      rw [hm] at h
      simp only at h
      intro cls d H' Φ' c1 x
      cases hh : hand k mk τ out with
      | none => rw [hh] at h; exact h.elim
      | some τ' =>
        rw [hh] at h
        exact h cls d σ H' Φ' (back c1 hh) x
theorem t_callL {mf : Fn} {ms : M (List S)} {n : Nat} {Q : VK} (pr : Proper mf) (hn : ∀ (o : O) (ds : List D), mf (.lent 0 o :: ds.map S.val) ≠ .stuck → ds.length + 1 = n) (h : TEm F W (eCallL mf ms) σ H Q) : TLm F W ms σ H fun vs H1 => spM F.G n mf vs H1 Q (WE W σ) := by
  obtain ⟨Φ, τ, tm, rl, h⟩ := h
  refine tl_go rl h.bnd fun ss τ1 vs H1 Φ1 p1 l r1 => ?_
  split at p1
  · rename_i k rest
    cases vs with
    | nil => cases l
    | cons v vs =>
      have l' : vs.length = rest.length := by simpa using l
      obtain ⟨ds, τ2, e, p2⟩ := takeAll_cases (Wp.bnd p1)
      have r1' : Rl F Φ1 H1 σ τ1 ((vs.map some).zip rest ++ ((some v, .ali k) :: tm)) := r1.air (.perm (by
        show ((some v, S.ali k) :: ((vs.map some).zip rest ++ tm)).Perm _
        exact List.perm_middle.symm))
      obtain ⟨Φ2, r2, q⟩ := Rl.takenAll l' r1' e
      obtain ⟨x, s, e1, e2, e3, _⟩ := r2.hd
      cases e1
      have st : ∀ o mk, Wp F W tm (lendTo mf k o mk ds τ2) (fun s τ' => ∀ v H' Φ', Rl F Φ' H' σ τ' ((some v, s) :: tm) → Q v H') → ds.length + 1 = n := fun o mk z => by
        refine hn o ds fun y => ?_
        unfold lendTo at z
        rw [y] at z
        exact z
      obtain ⟨y, e4, em, o1⟩ := r2.at e3
      rw [e2] at e4
      cases e4
      cases s with
      | own o =>
        simp only [e3] at p2
        obtain ⟨a, e5, _⟩ := o1
        cases e5
        exact lend_ok pr (st _ _ p2) r2.tl q e3 e2 (fun o' => .own o o') p2
      | lent j o =>
        simp only [e3] at p2
        obtain ⟨a, e5, _⟩ := o1
        cases e5
        exact lend_ok pr (st _ _ p2) r2.tl q e3 e2 (fun o' => .lent j o o') p2
      | raw => simp only [e3] at p2; exact p2.elim
      | non => simp only [e3] at p2; exact p2.elim
      | val d => simp only [e3] at p2; exact p2.elim
      | ali i => simp only [e3] at p2; exact p2.elim
  · exact p1.elim
end
section
variable {X : Cx} {F : Fm} {W : WX} {k : Nat} {f : Addr} {fd : FuncData} {ps : List Str} {mf : Fn} {ms : M (List S)} {x : Str} {p pos : Pos} {a : Expr} {es : List Expr}
/-- what a rule for calls asks of a def -/
structure DefOk (P : Program) (w : World) (K : PySem.W.Frag) (mg : Str → Option Value) (base : Heap) (G : Gx) (k : Nat) (x : Str) (n : Nat) (mf : Fn) : Prop where
  ex : ∃ f fd ps, FnOk P w K mg base (L2.CX P w) k f fd ps (spM G n mf) ∧ mg x = some (.ref f) ∧ PySem.W.keepIn K (.ref f) = true ∧ Binds K fd ps []
  pr : Proper mf
  ar : ∀ ss, mf ss ≠ .stuck → ss.length = n
theorem em_callV {n : Nat} (ft : Fits X F W) (hr : Room k X.A) (df : DefOk X.prog X.w X.K X.mg X.base F.G k x n mf) (ha : LM X F W (a :: es) ms) (hg : Gl X x := by rfl) (hdb : (x == ("__debug__" : Str)) = false := by decide) (he : starEach (a :: es) X.env = (false, eval a X.env) :: starEach es X.env := by rfl) (hpl : (backTo pos (starEach es X.env)).any (·.1) = false := by rfl) :
    EM X F W (.Call (.Name x p) (a :: es) [] pos) (eCallV mf ms) := by
  obtain ⟨f, fd, ps, G, gm, kp, b⟩ := df.ex
  exact PE.imp (pe_callS (E := WE W) G hr hg gm kp b (fun σ => passAt ft.tk σ) ha hdb he hpl) fun σ H Q h => t_callV df.pr (fun ds z => by simpa using df.ar _ z) h
theorem em_callL {n : Nat} (ft : Fits X F W) (hr : Room k X.A) (df : DefOk X.prog X.w X.K X.mg X.base F.G k x n mf) (ha : LM X F W (a :: es) ms) (hg : Gl X x := by rfl) (hdb : (x == ("__debug__" : Str)) = false := by decide) (he : starEach (a :: es) X.env = (false, eval a X.env) :: starEach es X.env := by rfl) (hpl : (backTo pos (starEach es X.env)).any (·.1) = false := by rfl) :
    EM X F W (.Call (.Name x p) (a :: es) [] pos) (eCallL mf ms) := by
  obtain ⟨f, fd, ps, G, gm, kp, b⟩ := df.ex
  exact PE.imp (pe_callS (E := WE W) G hr hg gm kp b (fun σ => passAt ft.tk σ) ha hdb he hpl) fun σ H Q h => t_callL df.pr (fun o ds z => by simpa using df.ar _ z) h
end
end Mi

/-! ### M8: loops -/
namespace Mi
open PySem PySem.Spec PyProof.Rows L2

/-- while these items are walked, this must stay of the slots -/
abbrev Pin := List S → Prop
/-- what an iterator yields, seen by plain data; base: what is in the air for it -/
def Yields (F : Fm) (J : It) (its : List D) (base : Env1) (pin : Pin) : Prop := ∀ {i : Nat} {Φ H : Hp} {σ : L2.St} {τ : List S} {tm : Env1}, Rl F Φ H σ τ (base ++ tm) → pin τ →
  (∀ d, its[i]? = some d → J.go i H ∧ ∀ x H2, J.yld i H x H2 → ∃ Φ2, Rl F Φ2 H2 σ τ ((some x, .val d) :: (base ++ tm))) ∧ (its.length ≤ i → J.stop i H)
def TIm (F : Fm) (W : WX) (mi : M (List D × Pin)) : TI := fun σ H Rr => ∃ Φ τ tm, Rl F Φ H σ τ tm ∧ Wp F W tm (mi τ) fun p τ' => ∀ J H' Φ' base, Quiet base → Rl F Φ' H' σ τ' (base ++ tm) → p.2 τ' → Yields F J p.1 base p.2 → Rr J H'
abbrev IM (X : Cx) (F : Fm) (W : WX) (tg e : Expr) (mi : M (List D × Pin)) : Prop := PI X tg e (TIm F W mi)
theorem PI.imp {X : Cx} {tg e : Expr} {t t' : TI} (h : PI X tg e t) (i : ∀ σ H Q, t' σ H Q → t σ H Q) : PI X tg e t' := ⟨fun pins s σ H Q I q => h.run pins s σ H Q I (i _ _ _ q)⟩
open Classical in
noncomputable def chk (p : Pin) : M Unit := fun τ => if p τ then .ok ((), τ) else .stuck
theorem Wp.chk {F : Fm} {W : WX} {p : Pin} {τ : List S} {K : Unit → List S → Prop} (h : Wp F W tm (chk p τ) K) : p τ ∧ K () τ := by
  unfold Mi.chk at h
  split at h
  · exact ⟨by assumption, h⟩
  · exact h.elim
/-- the turns of a for -/
noncomputable def loopM (pin : Pin) (g : MG) (body : M Fl) : List D → M Fl
  | [] => M.ret .nx
  | d :: ds => M.bnd (g (.val d)) fun _ => M.bnd body fun f => match f with
    | .nx => M.bnd (chk pin) fun _ => loopM pin g body ds
    | .ct => M.bnd (chk pin) fun _ => loopM pin g body ds
    | .bk => M.ret .nx
    | .rt s => M.ret (.rt s)
noncomputable def sFor (mi : M (List D × Pin)) (g : MG) (body : M Fl) : M Fl := M.bnd mi fun p => loopM p.2 g body p.1
section
variable {X : Cx} {F : Fm} {W : WX} {Φ Φ' H H' : Hp} {σ : L2.St} {τ τ' : List S} {tm : Env1} {tg iter : Expr} {mi : M (List D × Pin)} {g : MG} {body : M Fl} {pos : Pos}
theorem quiet_app {a b : Env1} (h : Quiet a) (k : Quiet b) : Quiet (a ++ b) := fun p hp => (List.mem_append.mp hp).elim (h p) (k p)
/-- the air of the iterator goes -/
theorem Rl.unbase {base : Env1} (r : Rl F Φ H σ τ (base ++ tm)) : Rl F Φ H σ τ tm := r.air (.of (List.sublist_append_right _ _))
theorem sm_for {b : List Stmt} {is : List Nat} (ft : Fits X F W) (hi : IM X F W tg iter mi) (hg : GM X F W tg is g) (hb : BlM X F W b body) (hs : ∀ x, foldedSetIterable iter X.env x = pure x := by intro _; rfl) : SM X F W (.For tg iter b [] pos) (sFor mi g body) := by
  refine PS.imp (ps_for ft.own ft.calm hi hg hb hs) fun D σ H ⟨Φ, τ, tm, qt, r, h⟩ => ?_
  refine ⟨Φ, τ, tm, r, (Wp.bnd h).mono fun p τ1 h1 J H1 Φ1 base qb r1 pn ys => ?_⟩
  obtain ⟨its, pin⟩ := p
  simp only at h1 pn ys
  refine ⟨fun i m σ H => ∃ Φ τ, Rl F Φ H σ τ (base ++ tm) ∧ pin τ ∧ m = its.length - i ∧ Wp F W tm (loopM pin g body (its.drop i) τ) (FlK F D tm), ⟨its.length, Φ1, τ1, r1, pn, by simp, by rw [List.drop_zero]; exact h1⟩, ?_⟩
  rintro i m σ2 H2 ⟨Φ2, τ2, r2, pn2, rfl, h2⟩
  obtain ⟨y1, y2⟩ := ys (i := i) r2 pn2
  by_cases hlt : i < its.length
  · obtain ⟨d, hd⟩ : ∃ d, its[i]? = some d := ⟨its[i], List.getElem?_eq_getElem hlt⟩
    obtain ⟨go, yl⟩ := y1 d hd
    rw [List.drop_eq_getElem_cons hlt] at h2
    have ed : its[i] = d := by rw [List.getElem?_eq_getElem hlt] at hd; exact Option.some.inj hd
    rw [ed] at h2
    refine .inr ⟨go, fun σ' H' => ∃ Φ τ, Rl F Φ H' σ' τ (base ++ tm) ∧ pin τ ∧ Wp F W tm (loopM pin g body (its.drop (i + 1)) τ) (FlK F D tm), fun σ' H' ⟨Φ3, τ3, r3, pn3, h3⟩ => ⟨its.length - (i + 1), by omega, Φ3, τ3, r3, pn3, rfl, h3⟩, fun x H3 hy => ?_⟩
    obtain ⟨Φ3, r3⟩ := yl x H3 hy
    have hh := Wp.bnd (show Wp F W tm (M.bnd (g (.val d)) (fun _ => M.bnd body fun f => match f with
      | .nx => M.bnd (chk pin) fun _ => loopM pin g body (its.drop (i + 1))
      | .ct => M.bnd (chk pin) fun _ => loopM pin g body (its.drop (i + 1))
      | .bk => M.ret .nx
      | .rt s => M.ret (.rt s)) τ2) _ from h2)
    refine ⟨Φ3, τ2, base ++ tm, .val d, trivial, quiet_app qb qt, r3, (hh.air (Subp.app' (Subp.of (List.Sublist.refl _)))).mono fun _ τ4 h4 σ4 H4 Φ4 r4 _ => ?_⟩
    refine ts_go (quiet_app qb qt) r4 (Wp.bnd h4) (fun τ5 σ5 H5 Φ5 p5 r5 => ?_) (fun τ5 σ5 H5 Φ5 p5 r5 => p5 σ5 H5 Φ5 r5.unbase) (fun τ5 σ5 H5 Φ5 p5 r5 => ?_) fun s τ5 v σ5 H5 Φ5 p5 r5 => p5 v σ5 H5 Φ5 ?_
    · obtain ⟨q, k⟩ := Wp.chk (Wp.bnd p5)
      exact ⟨Φ5, τ5, r5, q, k⟩
    · obtain ⟨q, k⟩ := Wp.chk (Wp.bnd p5)
      exact ⟨Φ5, τ5, r5, q, k⟩
    · exact r5.air (.of (List.Sublist.cons_cons _ (List.sublist_append_right _ _)))
  · have hle : its.length ≤ i := by omega
    rw [List.drop_eq_nil_of_le hle] at h2
    exact .inl ⟨y2 hle, h2 σ2 H2 Φ2 r2.unbase⟩

/-! #### what is walked -/
def noPin : Pin := fun _ => True
/-- a list, a tuple: what is ours is ours no more; what was lent must stay as it is -/
def items : D → Option (List D)
  | .lst xs => some xs
  | .tup xs => some xs
  | .scr xs => some xs
  | _ => none
def iSeq (ma : M S) : M (List D × Pin) := M.bnd ma fun s => fun τ => match s with
  | .ali k => (match τ[k]? with
    | some (.lent j (.lst xs)) => .ok ((xs, fun τ => τ[k]? = some (.lent j (.lst xs))), τ)
    | _ => M.bnd (take (.ali k)) (fun d => M.bnd (M.of (items d)) fun xs => M.ret (xs, noPin)) τ)
  | s => M.bnd (take s) (fun d => M.bnd (M.of (items d)) fun xs => M.ret (xs, noPin)) τ
theorem FzL.at {G : Gx} {vs : List V} {ds : List D} {i : Nat} {d : D} (q : FzL G Φ vs ds) (h : ds[i]? = some d) : ∃ v, vs[i]? = some v ∧ Fz G Φ v d := FzL.get q h
theorem yields_lst (hK : X.K = F.G.K) {a : Addr} {xs : List D} : Yields F (Itl X.K a) xs [(some (.ref a), .val (.lst xs))] noPin := by
  intro i Φ H σ τ tm r _
  obtain ⟨x, e, q⟩ := r.one (some (.ref a), .val (.lst xs)) (List.mem_append_right _ List.mem_cons_self)
  cases e
  cases q with
  | lst h t =>
    have hs := r.le _ _ h
    refine ⟨fun d hd => ?_, fun hl => ⟨_, .inl (.inl hs), by rw [t.length]; exact hl⟩⟩
    obtain ⟨v, hv, fv⟩ := FzL.at t hd
    refine ⟨⟨_, v, .inl (.inl hs), hv⟩, fun x H2 ⟨e, y⟩ => ?_⟩
    subst e
    have := y _ (.inl (.inl hs))
    rw [hv] at this
    cases this
    exact ⟨Φ, r.val fv⟩
theorem yields_scr (hK : X.K = F.G.K) {a : Addr} {xs : List D} : Yields F (Itl X.K a) xs [(some (.ref a), .val (.scr xs))] noPin := by
  intro i Φ H σ τ tm r _
  obtain ⟨x, e, q⟩ := r.one (some (.ref a), .val (.scr xs)) (List.mem_append_right _ List.mem_cons_self)
  cases e
  cases q with
  | scr h t =>
    have hs := SqL.le h r.le
    rw [← hK] at hs
    refine ⟨fun d hd => ?_, fun hl => ⟨_, hs, by rw [t.length]; exact hl⟩⟩
    obtain ⟨v, hv, fv⟩ := FzL.at t hd
    refine ⟨⟨_, v, hs, hv⟩, fun x H2 ⟨e, y⟩ => ?_⟩
    subst e
    have := y _ hs
    rw [hv] at this
    cases this
    exact ⟨Φ, r.val fv⟩
theorem yields_tup (hK : X.K = F.G.K) {a : Addr} {xs : List D} : Yields F (Itt X.K a) xs [(some (.ref a), .val (.tup xs))] noPin := by
  intro i Φ H σ τ tm r _
  obtain ⟨x, e, q⟩ := r.one (some (.ref a), .val (.tup xs)) (List.mem_append_right _ List.mem_cons_self)
  cases e
  cases q with
  | tup h t =>
    have hs := SqT.le h r.le
    rw [← hK] at hs
    refine ⟨fun d hd => ?_, fun hl => ⟨_, hs, by rw [t.length]; exact hl⟩⟩
    obtain ⟨v, hv, fv⟩ := FzL.at t hd
    refine ⟨⟨_, v, hs, hv⟩, fun x H2 ⟨e, y⟩ => ?_⟩
    subst e
    have := y _ hs
    rw [hv] at this
    cases this
    exact ⟨Φ, r.val fv⟩
theorem yields_lent (hK : X.K = F.G.K) {a : Addr} {xs : List D} {k j : Nat} (pj : F.P j = some a) : Yields F (Itl X.K a) xs [] (fun τ => τ[k]? = some (.lent j (.lst xs))) := by
  intro i Φ H σ τ tm r pn
  obtain ⟨v, e1, em, b, e2, ⟨vs, hs, t⟩, _, pb⟩ := r.at pn
  rw [pj] at pb
  cases pb
  refine ⟨fun d hd => ?_, fun hl => ⟨_, .inl (.inl hs), by rw [t.length]; exact hl⟩⟩
  obtain ⟨v, hv, fv⟩ := FzL.at t hd
  refine ⟨⟨_, v, .inl (.inl hs), hv⟩, fun x H2 ⟨e, y⟩ => ?_⟩
  subst e
  have := y _ (.inl (.inl hs))
  rw [hv] at this
  cases this
  exact ⟨Φ, r.val fv⟩
theorem quiet_one {v : Option V} {d : D} : Quiet [(v, .val d)] := fun p hp => by
  cases hp with
  | head => trivial
  | tail _ h => cases h
theorem quiet_nil : Quiet [] := fun _ h => nomatch h
theorem im_seq {ma : M S} (ft : Fits X F W) (ha : EM X F W iter ma) : IM X F W tg iter (iSeq ma) := by
  have two : PI X tg iter (fun σ H R => TEm F W ma σ H fun x H1 => ∃ a, x = .ref a ∧ (((∃ xs, SqL X.K H1 a xs) ∧ R (Itl X.K a) H1) ∨ ((∃ xs, SqT X.K H1 a xs) ∧ R (Itt X.K a) H1))) := by
    refine ⟨fun pins s σ H R I h => ?_⟩
    refine thn (ha.run pins s σ H _ I h) fun v s1 ⟨x, H1, I1, r1, q1⟩ => ?_
    obtain ⟨a, e, q1 | q1⟩ := q1
    · have pin : PE (X) iter (fun σ2 H2 Q => TEm F W ma σ2 H2 Q) := ha
      obtain ⟨⟨xs, hq⟩, q⟩ := q1
      subst e
      cases r1
      obtain ⟨its, rv, p, hz⟩ := I1.list hq
      refine wpAny_pyIter_list p.isList ?_
      refine ⟨s1.heap.objs.size, [s1.heap.objs.size], _, _, H1, rfl, I1.kept (t' := s1.toks) fun b o e => Heap.get?_push_of_some _ e, turn_list a _, ⟨_, Heap.get?_push_size _ rfl, rfl, rfl⟩, fun b hb => ?_, q⟩
      have e : b = s1.heap.objs.size := by simpa using hb
      subst e
      exact I1.fpOk (Nat.le_refl _) (I1.hok.fresh (Nat.le_refl _))
    · obtain ⟨⟨xs, hq⟩, q⟩ := q1
      subst e
      cases r1
      obtain ⟨its, rv, p, hz⟩ := I1.tuple hq
      refine wpAny_pyIter_tuple (show s1.heap.IsTuple a its.toArray from p) ?_
      refine ⟨s1.heap.objs.size, [s1.heap.objs.size], _, _, H1, rfl, I1.kept (t' := s1.toks) fun b o e => Heap.get?_push_of_some _ e, turn_tuple a _, ⟨_, Heap.get?_push_size _ rfl, rfl, rfl⟩, fun b hb => ?_, q⟩
      have e : b = s1.heap.objs.size := by simpa using hb
      subst e
      exact I1.fpOk (Nat.le_refl _) (I1.hok.fresh (Nat.le_refl _))
  refine PI.imp two fun σ H Rr ⟨Φ, τ, tm, r, h⟩ => ?_
  refine te_go r (Wp.bnd h) fun s τ1 v H1 Φ1 p1 r1 => ?_
  have gen : Wp F W tm (M.bnd (take s) (fun d => M.bnd (M.of (items d)) fun xs => M.ret (xs, noPin)) τ1) (fun p τ' => ∀ J H' Φ' base, Quiet base → Rl F Φ' H' σ τ' (base ++ tm) → p.2 τ' → Yields F J p.1 base p.2 → Rr J H') →
      ∃ a, v = .ref a ∧ (((∃ xs, SqL X.K H1 a xs) ∧ Rr (Itl X.K a) H1) ∨ ((∃ xs, SqT X.K H1 a xs) ∧ Rr (Itt X.K a) H1)) := fun h => by
    obtain ⟨d, τ2, e, p2⟩ := take_cases (Wp.bnd h)
    obtain ⟨Φ2, r2⟩ := Rl.taken r1 e
    obtain ⟨xs, e2, k⟩ := Wp.of (Wp.bnd p2)
    obtain ⟨x, e3, q⟩ := r2.hd
    cases e3
    cases d with
    | lst ys =>
      cases e2
      cases q with
      | lst hh t => exact ⟨_, rfl, .inl ⟨⟨_, .inl (.inl (r2.le _ _ hh))⟩, k _ H1 Φ2 _ quiet_one r2 trivial (yields_lst ft.K)⟩⟩
    | scr ys =>
      cases e2
      cases q with
      | scr hh t => exact ⟨_, rfl, .inl ⟨⟨_, by rw [ft.K]; exact SqL.le hh r2.le⟩, k _ H1 Φ2 _ quiet_one r2 trivial (yields_scr ft.K)⟩⟩
    | tup ys =>
      cases e2
      cases q with
      | tup hh t => exact ⟨_, rfl, .inr ⟨⟨_, by rw [ft.K]; exact SqT.le hh r2.le⟩, k _ H1 Φ2 _ quiet_one r2 trivial (yields_tup ft.K)⟩⟩
    | _ => cases e2
  cases s with
  | ali k =>
    simp only at p1
    split at p1
    · rename_i j xs e
      obtain ⟨x, s', e1, e2, e3, _⟩ := r1.hd
      cases e1
      obtain ⟨w, e4, em, a, e5, ⟨vs, hs, t⟩, _, pj⟩ := r1.at e
      rw [e2] at e4
      cases e4
      cases e5
      exact ⟨a, rfl, .inl ⟨⟨vs, .inl (.inl hs)⟩, p1 _ H1 Φ1 [] quiet_nil r1.tl e (yields_lent ft.K pj)⟩⟩
    · exact gen p1
  | raw => exact gen p1
  | non => exact gen p1
  | val d => exact gen p1
  | own o => exact gen p1
  | lent j o => exact gen p1
/-- range(n), range(a, b) -/
def inR (i : Int) : Bool := decide (-(2 ^ 62) ≤ i ∧ i < 2 ^ 62)
def rangeD (lo hi : Int) : List D := (List.range (hi - lo).toNat).map fun n => .int (lo + (n : Nat))
def ranged1 : List D → Option (List D)
  | [.int j] => if inR j = true then some (rangeD 0 j) else none
  | _ => none
def ranged2 : List D → Option (List D)
  | [.int i, .int j] => if inR i = true ∧ inR j = true then some (rangeD i j) else none
  | _ => none
def iRng (f : List D → Option (List D)) (ms : M (List S)) : M (List D × Pin) := M.bnd ms fun ss => M.bnd (peekAll ss) fun ds => M.bnd (M.of (f ds)) fun its => M.ret (its, noPin)
theorem yields_rng {lo hi : Int} {n : Nat} (hn : n = (hi - lo).toNat) : Yields F (Itr lo n) (rangeD lo hi) [] noPin := by
  intro i Φ H σ τ tm r _
  subst hn
  refine ⟨fun d hd => ?_, fun hl => ?_⟩
  · unfold rangeD at hd
    rw [List.getElem?_map] at hd
    obtain ⟨k, e1, e2⟩ := Option.map_eq_some_iff.mp hd
    obtain ⟨h1, h2⟩ := List.getElem?_eq_some_iff.mp e1
    rw [List.length_range] at h1
    rw [List.getElem_range] at h2
    subst h2
    refine ⟨h1, fun x H2 ⟨e3, e4⟩ => ?_⟩
    subst e3 e4 e2
    exact ⟨Φ, r.val (.int _)⟩
  · unfold rangeD at hl
    rw [List.length_map, List.length_range] at hl
    exact hl
theorem im_range1 {a : Expr} {ms : M (List S)} {p : Pos} (hm : X.mg "range" = none) (ha : LM X F W [a] ms) (hg : Gl X "range" := by rfl) (hs : starEach [a] X.env = [(false, eval a X.env)] := by rfl) : IM X F W tg (.Call (.Name "range" p) [a] [] pos) (iRng ranged1 ms) :=
  PI.imp (pi_range1 hg hm ha hs) fun σ H Rr ⟨Φ, τ, tm, r, h⟩ => tl_go r (Wp.bnd h) fun ss τ1 vs H1 Φ1 p1 l r1 => by
    obtain ⟨ds, q, p2⟩ := Rl.peekAll l r1 (Wp.bnd p1)
    obtain ⟨its, e, k⟩ := Wp.of (Wp.bnd p2)
    unfold ranged1 at e
    split at e
    · split at e
      · rename_i j hz
        cases e
        obtain ⟨v, rfl, hv⟩ := rd1 q
        have hz' := of_decide_eq_true hz
        exact ⟨j, by rw [hv.int], hz'.1, hz'.2, k _ H1 Φ1 [] quiet_nil r1.unbase trivial (yields_rng (by simp))⟩
      · cases e
    · cases e
theorem im_range2 {a b : Expr} {ms : M (List S)} {p : Pos} (hm : X.mg "range" = none) (ha : LM X F W [a, b] ms) (hg : Gl X "range" := by rfl) (hs : starEach [a, b] X.env = [(false, eval a X.env), (false, eval b X.env)] := by rfl) (hs2 : starEach [b] X.env = [(false, eval b X.env)] := by rfl) : IM X F W tg (.Call (.Name "range" p) [a, b] [] pos) (iRng ranged2 ms) :=
  PI.imp (pi_range2 hg hm ha hs hs2) fun σ H Rr ⟨Φ, τ, tm, r, h⟩ => tl_go r (Wp.bnd h) fun ss τ1 vs H1 Φ1 p1 l r1 => by
    obtain ⟨ds, q, p2⟩ := Rl.peekAll l r1 (Wp.bnd p1)
    obtain ⟨its, e, k⟩ := Wp.of (Wp.bnd p2)
    unfold ranged2 at e
    split at e
    · split at e
      · rename_i i j hz
        cases e
        obtain ⟨v, w, rfl, hv, hw⟩ := rd2 q
        have h1 := of_decide_eq_true hz.1
        have h2 := of_decide_eq_true hz.2
        exact ⟨i, j, by rw [hv.int, hw.int], ⟨h1.1, h1.2, h2.1, h2.2⟩, k _ H1 Φ1 [] quiet_nil r1.unbase trivial (yields_rng rfl)⟩
      · cases e
    · cases e
/-! #### while -/
/-- n turns at most -/
def whileN (c : M Bool) (body : M Fl) : Nat → M (Option Fl)
  | 0 => M.ret none
  | n + 1 => M.bnd c fun b => if b = true then M.bnd body fun f => match f with
    | .nx => whileN c body n
    | .ct => whileN c body n
    | .bk => M.ret (some .nx)
    | .rt s => M.ret (some (.rt s))
    else M.ret (some .nx)
/-- n turns, no more, are the whole of it -/
def Ends' (c : M Bool) (body : M Fl) (τ : List S) (n : Nat) : Prop := ∀ τ', whileN c body n τ ≠ .ok (none, τ')
open Classical in
noncomputable def sWhile (c : M Bool) (body : M Fl) : M Fl := fun τ => if h : ∃ n, Ends' c body τ n then (match whileN c body (choose h) τ with
  | .ok (some f, τ') => .ok (f, τ')
  | .ok (none, _) => .stuck
  | .exc c fs τ' => .exc c fs τ'
  | .stuck => .stuck) else .stuck
theorem whileN_more {c : M Bool} {body : M Fl} : ∀ {n k : Nat} {τ : List S}, Ends' c body τ n → whileN c body (n + k) τ = whileN c body n τ
  | 0, k, τ, h => absurd rfl (h τ)
  | n + 1, k, τ, h => by
    rw [Nat.add_right_comm]
    unfold whileN M.bnd
    cases e : c τ with
    | stuck => rfl
    | exc _ _ _ => rfl
    | ok p =>
      obtain ⟨b, τ1⟩ := p
      cases b with
      | false => rfl
      | true =>
        simp only [if_true]
        cases e2 : body τ1 with
        | stuck => rfl
        | exc _ _ _ => rfl
        | ok p =>
          obtain ⟨f, τ2⟩ := p
          have go : (f = .nx ∨ f = .ct) → Ends' c body τ2 n := fun hf τ' z => by
            refine h τ' ?_
            unfold whileN M.bnd
            rw [e]
            simp only [if_true]
            rw [e2]
            rcases hf with rfl | rfl <;> exact z
          cases f with
          | nx => exact whileN_more (go (.inl rfl))
          | ct => exact whileN_more (go (.inr rfl))
          | bk => rfl
          | rt s => rfl
theorem Ends'.more {c : M Bool} {body : M Fl} {n k : Nat} {τ : List S} (h : Ends' c body τ n) : Ends' c body τ (n + k) := fun τ' => by
  rw [whileN_more h]
  exact h τ'
theorem while_eq {c : M Bool} {body : M Fl} {n : Nat} {τ : List S} (h : Ends' c body τ n) : sWhile c body τ = match whileN c body n τ with
  | .ok (some f, τ') => .ok (f, τ')
  | .ok (none, _) => .stuck
  | .exc c fs τ' => .exc c fs τ'
  | .stuck => .stuck := by
  have hx : ∃ n, Ends' c body τ n := ⟨n, h⟩
  unfold sWhile
  rw [dif_pos hx]
  have e : whileN c body (Classical.choose hx) τ = whileN c body n τ := by
    have h1 := Classical.choose_spec hx
    rcases Nat.le_total (Classical.choose hx) n with q | q
    · obtain ⟨k, rfl⟩ := Nat.exists_eq_add_of_le q
      exact (whileN_more h1).symm
    · have q2 : Classical.choose hx = n + (Classical.choose hx - n) := by omega
      rw [q2]
      exact whileN_more h
  rw [e]
theorem sm_while {c : Expr} {mc : M Bool} {b : List Stmt} (ft : Fits X F W) (hc : BM X F W c mc) (hb : BlM X F W b body) : SM X F W (.While c b [] pos) (sWhile mc body) := by
  refine PS.imp (ps_while ft.own hc hb) fun D σ H ⟨Φ, τ, tm, qt, r, h⟩ => ?_
  -- the turns that are left
  by_cases hx : ∃ n, Ends' mc body τ n
  · obtain ⟨n, hn⟩ := hx
    rw [while_eq hn] at h
    have h' : Wp F W tm (whileN mc body n τ) (fun o τ' => match o with
      | some f => FlK F D tm f τ'
      | none => False) := by
      cases e : whileN mc body n τ with
      | stuck => rw [e] at h; exact h
      | exc _ _ _ => rw [e] at h; exact h
      | ok p =>
        obtain ⟨o, τ'⟩ := p
        rw [e] at h
        cases o with
        | none => exact h
        | some f => exact h
    refine ⟨fun m σ H => ∃ Φ τ, Rl F Φ H σ τ tm ∧ Wp F W tm (whileN mc body m τ) (fun o τ' => match o with
      | some f => FlK F D tm f τ'
      | none => False), ⟨n, Φ, τ, r, h'⟩, ?_⟩
    rintro m σ1 H1 ⟨Φ1, τ1, r1, h1⟩
    cases m with
    | zero => exact h1.elim
    | succ m =>
      refine tb_go r1 (Wp.bnd (show Wp F W tm (M.bnd mc (fun b => if b = true then M.bnd body fun f => match f with
        | .nx => whileN mc body m
        | .ct => whileN mc body m
        | .bk => M.ret (some .nx)
        | .rt s => M.ret (some (.rt s))
        else M.ret (some .nx)) τ1) _ from h1)) fun bb τ2 H2 Φ2 p2 r2 => ?_
      cases bb with
      | false =>
        rw [if_neg Bool.false_ne_true] at p2 ⊢
        exact p2 σ1 H2 Φ2 r2
      | true =>
        rw [if_pos rfl] at p2 ⊢
        refine ⟨fun σ' H' => ∃ Φ τ, Rl F Φ H' σ' τ tm ∧ Wp F W tm (whileN mc body m τ) (fun o τ' => match o with
          | some f => FlK F D tm f τ'
          | none => False), fun σ' H' q => ⟨m, Nat.lt_succ_self m, q⟩, ?_⟩
        exact ts_go qt r2 (Wp.bnd p2) (fun τ5 σ5 H5 Φ5 p5 r5 => ⟨Φ5, τ5, r5, p5⟩) (fun τ5 σ5 H5 Φ5 p5 r5 => p5 σ5 H5 Φ5 r5) (fun τ5 σ5 H5 Φ5 p5 r5 => ⟨Φ5, τ5, r5, p5⟩) fun s τ5 v σ5 H5 Φ5 p5 r5 => p5 v σ5 H5 Φ5 r5
  · unfold sWhile at h
    rw [dif_neg hx] at h
    exact h.elim
end
end Mi

/-! ### M9: comprehensions, stores -/
namespace Mi
open PySem PySem.Spec PyProof.Rows L2

def S.isReal : S → Bool
  | .non => false
  | .raw => false
  | .ali _ => false
  | _ => true
theorem S.real_iff {s : S} : s.isReal = true ↔ s.real := by cases s <;> simp [S.isReal, S.real]
def S.isAli : S → Bool
  | .ali _ => true
  | _ => false
def plainS : S → Bool
  | .non => true
  | .val _ => true
  | _ => false
def wipeT (own : List Nat) (τ : List S) : List S := own.foldl (fun t i => t.set i .non) τ
theorem wipeT_length : ∀ (own : List Nat) (τ : List S), (wipeT own τ).length = τ.length
  | [], _ => rfl
  | i :: own, τ => by
    show (wipeT own (τ.set i .non)).length = _
    rw [wipeT_length, List.length_set]
theorem wipeT_get : ∀ (own : List Nat) (τ : List S) (j : Nat), (wipeT own τ)[j]? = if j ∈ own then τ[j]?.map (fun _ => .non) else τ[j]?
  | [], τ, j => by simp [wipeT]
  | i :: own, τ, j => by
    show (wipeT own (τ.set i .non))[j]? = _
    rw [wipeT_get own]
    by_cases hj : i = j
    · subst hj
      by_cases hi : i < τ.length
      · rw [List.getElem?_set_self hi, if_pos List.mem_cons_self, List.getElem?_eq_getElem hi]
        split <;> rfl
      · rw [List.getElem?_eq_none (by rw [List.length_set]; omega), List.getElem?_eq_none (by omega)]
        split <;> (first | rfl | (split <;> rfl))
    · rw [List.getElem?_set_ne hj]
      by_cases hm : j ∈ own
      · rw [if_pos hm, if_pos (List.mem_cons_of_mem _ hm)]
      · rw [if_neg hm, if_neg (fun z => (List.mem_cons.mp z).elim (fun e => hj e.symm) hm)]
theorem wipe_get (σ : L2.St) : ∀ (own : List Nat) (j : Nat), (wipe σ own)[j]? = if j ∈ own then σ[j]?.map (fun _ => none) else σ[j]?
  | [], j => by simp [wipe]
  | i :: own, j => by
    show ((wipe σ own).set i none)[j]? = _
    by_cases hj : i = j
    · subst hj
      rw [if_pos List.mem_cons_self]
      by_cases hi : i < σ.length
      · rw [List.getElem?_set_self (by rw [wipe_length]; exact hi), List.getElem?_eq_getElem hi]
        rfl
      · rw [List.getElem?_eq_none (by rw [List.length_set, wipe_length]; omega), List.getElem?_eq_none (by omega)]
        rfl
    · rw [List.getElem?_set_ne hj, wipe_get σ own]
      by_cases hm : j ∈ own
      · rw [if_pos hm, if_pos (List.mem_cons_of_mem _ hm)]
      · rw [if_neg hm, if_neg (fun z => (List.mem_cons.mp z).elim (fun e => hj e.symm) hm)]
theorem wipe_but {is own : List Nat} {σ σ' : L2.St} (h : But is (wipe σ own) σ') (s : ∀ i ∈ is, i ∈ own) : wipe σ' own = wipe σ own := by
  have l : σ'.length = σ.length := by rw [h.len, wipe_length]
  apply List.ext_getElem?
  intro j
  rw [wipe_get, wipe_get]
  by_cases hm : j ∈ own
  · rw [if_pos hm, if_pos hm]
    by_cases hj : j < σ.length
    · rw [List.getElem?_eq_getElem hj, List.getElem?_eq_getElem (by omega)]; rfl
    · rw [List.getElem?_eq_none (by omega), List.getElem?_eq_none (by omega)]
  · rw [if_neg hm, if_neg hm, h.at_ j (fun z => hm (s j z)), wipe_get, if_neg hm]
/-- behind the comprehension: its own names are what they were -/
def restT (own : List Nat) (τ τ1 : List S) : List S := (List.range τ.length).map fun i => if own.contains i = true then τ.getD i .non else τ1.getD i .non
def realOk : List S → List S → Bool
  | [], [] => true
  | s :: τ, t :: τ1 => (!s.isReal || t.isReal) && realOk τ τ1
  | _, _ => false
def wip (own : List Nat) : M Unit := fun τ => .ok ((), wipeT own τ)
noncomputable def compM (own : List Nat) (pin : Pin) (g : MG) (test : M Bool) (elt : M S) : List D → List D → M (List D)
  | [], acc => M.ret acc
  | d :: ds, acc => M.bnd (g (.val d)) fun _ => M.bnd test fun b => if b = true then
      M.bnd elt fun s => M.bnd (take s) fun y => M.bnd (M.of (fitL (acc.length + 1))) fun _ => M.bnd (wip own) fun _ => M.bnd (chk pin) fun _ => compM own pin g test elt ds (acc ++ [y])
    else M.bnd (wip own) fun _ => M.bnd (chk pin) fun _ => compM own pin g test elt ds acc
noncomputable def eComp (own : List Nat) (mi : M (List D × Pin)) (g : MG) (test : M Bool) (elt : M S) : M S := M.bnd mi fun p => fun τ =>
  if own.all (fun i => plainS (τ.getD i .non)) = true then (match (M.bnd (chk p.2) fun _ => compM own p.2 g test elt p.1 []) (wipeT own τ) with
  | .ok (ds, τ1) => if realOk (wipeT own τ) τ1 = true then .ok (.own (.lst ds), restT own τ τ1) else .stuck
  | _ => .stuck) else .stuck
def bYes : M Bool := M.ret true
abbrev W0 : WX := fun _ _ _ _ => False

section
variable {X : Cx} {F : Fm} {W : WX} {Φ Φ' H H' : Hp} {σ : L2.St} {τ τ1 τ' : List S} {tm : Env1}
theorem realOk_len : ∀ {τ τ1 : List S}, realOk τ τ1 = true → τ.length = τ1.length
  | [], [], _ => rfl
  | _ :: _, _ :: _, h => by
    unfold realOk at h
    rw [Bool.and_eq_true] at h
    rw [List.length_cons, List.length_cons, realOk_len h.2]
  | [], _ :: _, h => by cases h
  | _ :: _, [], h => by cases h
theorem realOk_at : ∀ {τ τ1 : List S} {i : Nat} {s : S}, realOk τ τ1 = true → τ[i]? = some s → s.real → ∃ t, τ1[i]? = some t ∧ t.real
  | [], [], _, _, _, e, _ => by simp at e
  | s :: τ, t :: τ1, 0, s', h, e, q => by
    unfold realOk at h
    rw [Bool.and_eq_true] at h
    simp only [List.getElem?_cons_zero, Option.some.injEq] at e
    subst e
    have hs := S.real_iff.mpr q
    rw [hs] at h
    exact ⟨t, rfl, S.real_iff.mp (by simpa using h.1)⟩
  | s :: τ, t :: τ1, i + 1, s', h, e, q => by
    unfold realOk at h
    rw [Bool.and_eq_true] at h
    simp only [List.getElem?_cons_succ] at e
    obtain ⟨t', h1, h2⟩ := realOk_at h.2 e q
    exact ⟨t', by simpa using h1, h2⟩
  | [], _ :: _, _, _, h, _, _ => by cases h
  | _ :: _, [], _, _, h, _, _ => by cases h
theorem pw_filter {q : Option V × S → Bool} : ∀ {l : Env1}, (l.filter q).Pairwise Apart → (∀ p ∈ l, q p = false → holds p = none) → l.Pairwise Apart
  | [], _, _ => List.Pairwise.nil
  | p :: l, h, k => by
    have k' : ∀ x ∈ l, q x = false → holds x = none := fun x hx => k x (List.mem_cons_of_mem _ hx)
    by_cases hq : q p = true
    · rw [List.filter_cons_of_pos hq] at h
      obtain ⟨h1, h2⟩ := List.pairwise_cons.mp h
      refine List.pairwise_cons.mpr ⟨fun x hx => ?_, pw_filter h2 k'⟩
      by_cases hx' : q x = true
      · exact h1 x (List.mem_filter.mpr ⟨hx, hx'⟩)
      · exact (apart_none (k' x hx (by simpa using hx'))).symm
    · have hq' : q p = false := by simpa using hq
      rw [List.filter_cons_of_neg (by simp [hq'])] at h
      exact List.pairwise_cons.mpr ⟨fun x hx => apart_none (k p List.mem_cons_self hq'), pw_filter h k'⟩
def isQ (p : Option V × S) : Bool := !p.2.isAli
theorem isQ_quiet : Quiet (tm.filter isQ) := fun p hp => by
  have := (List.mem_filter.mp hp).2
  obtain ⟨v, s⟩ := p
  cases s <;> first | trivial | cases this
theorem holds_notQ {p : Option V × S} (h : isQ p = false) : holds p = none := by
  obtain ⟨v, s⟩ := p
  cases s <;> first | (cases h; done) | exact holds_ali
def valsOf (L : Env1) : Env1 := L.filter fun p => match p.2 with
  | .val _ => true
  | _ => false
theorem valsOf_mem {L : Env1} {v : Option V} {d : D} (h : (v, S.val d) ∈ L) : (v, S.val d) ∈ valsOf L := List.mem_filter.mpr ⟨h, rfl⟩
theorem valsOf_val {L : Env1} {p : Option V × S} (h : p ∈ valsOf L) : ∃ v d, p = (v, S.val d) ∧ p ∈ L := by
  obtain ⟨h1, h2⟩ := List.mem_filter.mp h
  obtain ⟨v, s⟩ := p
  cases s with
  | val d => exact ⟨v, d, rfl, h1⟩
  | _ => cases h2
theorem valsOf_quiet {L : Env1} : Quiet (valsOf L) := fun p hp => by
  obtain ⟨v, d, rfl, _⟩ := valsOf_val hp
  trivial
/-- plain values of the slots hang in the air too -/
theorem Rl.saved (r : Rl F Φ H σ τ tm) : Rl F Φ H σ τ (valsOf (σ.zip τ) ++ tm) := by
  have nv : ∀ p ∈ valsOf (σ.zip τ), holds p = none := fun p hp => by
    obtain ⟨v, d, rfl, _⟩ := valsOf_val hp
    exact holds_val
  refine ⟨r.len, r.fl, r.le0, r.le, r.pres, r.dom, r.new, fun p hp => ?_, ?_, r.tabs⟩
  · rcases List.mem_append.mp hp with h | h
    · exact r.one p (List.mem_append_left _ h)
    · rcases List.mem_append.mp h with h | h
      · obtain ⟨v, d, rfl, hm⟩ := valsOf_val h
        exact r.one _ (List.mem_append_left _ hm)
      · exact r.one p (List.mem_append_right _ h)
  · obtain ⟨h1, h2, h3⟩ := List.pairwise_append.mp r.nd
    refine List.pairwise_append.mpr ⟨h1, List.pairwise_append.mpr ⟨?_, h2, fun a ha b hb => apart_none (nv a ha)⟩, fun a ha b hb => ?_⟩
    · refine List.Pairwise.imp_of_mem (fun {a b} ha _ _ => apart_none (nv a ha)) (h1.sublist List.filter_sublist)
    · rcases List.mem_append.mp hb with h | h
      · exact (apart_none (nv b h)).symm
      · exact h3 a ha b h
/-- slots forgotten -/
theorem Rl.wiped (r : Rl F Φ H σ τ tm) (qt : Quiet tm) (own : List Nat) : Rl F Φ H (wipe σ own) (wipeT own τ) tm := by
  have len : (wipe σ own).length = (wipeT own τ).length := by rw [wipe_length, wipeT_length]; exact r.len
  have ent : ∀ {j : Nat} {p}, ((wipe σ own).zip (wipeT own τ))[j]? = some p → (p.2 = .non) ∨ (σ.zip τ)[j]? = some p := fun {j p} h => by
    obtain ⟨v, s⟩ := p
    rw [List.getElem?_zip_eq_some] at h
    obtain ⟨h1, h2⟩ := h
    rw [wipe_get] at h1
    rw [wipeT_get] at h2
    by_cases hm : j ∈ own
    · rw [if_pos hm] at h2
      obtain ⟨_, _, e⟩ := Option.map_eq_some_iff.mp h2
      exact .inl e.symm
    · rw [if_neg hm] at h1 h2
      exact .inr (List.getElem?_zip_eq_some.mpr ⟨h1, h2⟩)
  have lz : ((wipe σ own).zip (wipeT own τ)).length = (σ.zip τ).length := by rw [List.length_zip, List.length_zip, wipe_length, wipeT_length]
  refine ⟨len, fun s hs => ?_, r.le0, r.le, r.pres, r.dom, r.new, fun p hp => ?_, ?_, r.tabs⟩
  · obtain ⟨j, hj⟩ := List.getElem?_of_mem hs
    rw [wipeT_get] at hj
    by_cases hm : j ∈ own
    · rw [if_pos hm] at hj
      obtain ⟨_, _, e⟩ := Option.map_eq_some_iff.mp hj
      rw [← e]; trivial
    · rw [if_neg hm] at hj
      exact r.fl s (List.mem_of_getElem? hj)
  · rcases List.mem_append.mp hp with h | h
    · obtain ⟨j, hj⟩ := List.getElem?_of_mem h
      rcases ent hj with e | e
      · obtain ⟨v, s⟩ := p
        simp only at e
        subst e
        trivial
      · have hm := List.mem_of_getElem? e
        exact (r.one p (List.mem_append_left _ hm)).slots (r.fl _ (List.of_mem_zip hm).2)
    · exact (r.one p (List.mem_append_right _ h)).slots (qt p h)
  · obtain ⟨h1, h2, h3⟩ := List.pairwise_append.mp r.nd
    refine List.pairwise_append.mpr ⟨?_, h2, fun a ha b hb => ?_⟩
    · rw [List.pairwise_iff_getElem] at h1 ⊢
      intro i j hi hj lt
      rcases ent (List.getElem?_eq_getElem hi) with e | e
      · exact apart_none (holds_non' e)
      · rcases ent (List.getElem?_eq_getElem hj) with e2 | e2
        · exact (apart_none (holds_non' e2)).symm
        · obtain ⟨x1, x2⟩ := List.getElem?_eq_some_iff.mp e
          obtain ⟨y1, y2⟩ := List.getElem?_eq_some_iff.mp e2
          have := h1 i j x1 y1 lt
          rw [x2, y2] at this
          exact this
    · obtain ⟨j, hj⟩ := List.getElem?_of_mem ha
      rcases ent hj with e | e
      · exact apart_none (holds_non' e)
      · exact h3 a (List.mem_of_getElem? e) b hb
theorem restT_length (own : List Nat) (τ τ1 : List S) : (restT own τ τ1).length = τ.length := by unfold restT; simp
theorem restT_get {own : List Nat} {j : Nat} (h : j < τ.length) : (restT own τ τ1)[j]? = some (if own.contains j = true then τ.getD j .non else τ1.getD j .non) := by
  unfold restT
  rw [List.getElem?_map, List.getElem?_range h]
  rfl
/-- back in the def: the comprehension's names are what they were -/
theorem Rl.rest {own : List Nat} {Φ0 H0 : Hp} {x : Env1} (r0 : Rl F Φ0 H0 σ τ tm) (r : Rl F Φ H (wipe σ own) τ1 (x ++ (valsOf (σ.zip τ) ++ tm.filter isQ))) (qx : Quiet x) (pl : own.all (fun i => plainS (τ.getD i .non)) = true) (ok : realOk (wipeT own τ) τ1 = true) : Rl F Φ H σ (restT own τ τ1) (x ++ tm) := by
  have l1 : τ1.length = τ.length := by rw [← realOk_len ok, wipeT_length]
  have plain : ∀ i ∈ own, ∀ s, τ[i]? = some s → plainS s = true := fun i hi s e => by
    have := List.all_eq_true.mp pl i hi
    rwa [List.getD_eq_getElem?_getD, e, Option.getD_some] at this
  -- the entries
  have ent : ∀ {j : Nat} {v : Option V} {s : S}, (σ.zip (restT own τ τ1))[j]? = some (v, s) → (j ∈ own ∧ σ[j]? = some v ∧ τ[j]? = some s) ∨ (j ∉ own ∧ ((wipe σ own).zip τ1)[j]? = some (v, s)) := fun {j v s} h => by
    rw [List.getElem?_zip_eq_some] at h
    obtain ⟨h1, h2⟩ := h
    have hj : j < τ.length := by
      have := (List.getElem?_eq_some_iff.mp h2).1
      rwa [restT_length] at this
    rw [restT_get hj] at h2
    by_cases hm : j ∈ own
    · rw [if_pos (by simpa using hm)] at h2
      refine .inl ⟨hm, h1, ?_⟩
      rw [List.getD_eq_getElem?_getD, List.getElem?_eq_getElem hj, Option.getD_some] at h2
      rw [List.getElem?_eq_getElem hj]
      exact h2
    · rw [if_neg (by simpa using hm)] at h2
      refine .inr ⟨hm, List.getElem?_zip_eq_some.mpr ⟨by rw [wipe_get, if_neg hm]; exact h1, ?_⟩⟩
      rw [List.getD_eq_getElem?_getD, List.getElem?_eq_getElem (by omega), Option.getD_some] at h2
      rw [List.getElem?_eq_getElem (by omega)]
      exact h2
  have fl : Flat (restT own τ τ1) := fun s hs => by
    obtain ⟨j, hj⟩ := List.getElem?_of_mem hs
    have hl : j < σ.length := by
      have := (List.getElem?_eq_some_iff.mp hj).1
      rw [restT_length, ← r0.len] at this
      exact this
    rcases ent (List.getElem?_zip_eq_some.mpr ⟨List.getElem?_eq_getElem hl, hj⟩) with ⟨_, _, e⟩ | ⟨_, e⟩
    · exact r0.fl s (List.mem_of_getElem? e)
    · exact r.fl s (List.mem_of_getElem? (List.getElem?_zip_eq_some.mp e).2)
  have oneS : ∀ p ∈ σ.zip (restT own τ τ1), One F Φ H σ (restT own τ τ1) p ∧ (holds p = none ∨ ∃ j, ((wipe σ own).zip τ1)[j]? = some p) := fun p hp => by
    obtain ⟨j, hj⟩ := List.getElem?_of_mem hp
    obtain ⟨v, s⟩ := p
    rcases ent hj with ⟨hm, e1, e2⟩ | ⟨hm, e⟩
    · have ps := plain j hm s e2
      cases s with
      | non => exact ⟨trivial, .inl holds_non⟩
      | val d =>
        have hz : (v, S.val d) ∈ σ.zip τ := List.mem_of_getElem? (List.getElem?_zip_eq_some.mpr ⟨e1, e2⟩)
        have := r.one (v, .val d) (List.mem_append_right _ (List.mem_append_right _ (List.mem_append_left _ (valsOf_mem hz))))
        exact ⟨this, .inl holds_val⟩
      | raw => cases ps
      | own o => cases ps
      | lent j o => cases ps
      | ali i => cases ps
    · have hz := List.mem_of_getElem? e
      exact ⟨(r.one _ (List.mem_append_left _ hz)).slots (r.fl _ (List.of_mem_zip hz).2), .inr ⟨j, e⟩⟩
  -- the air
  have real : ∀ (i : Nat) (s : S), τ[i]? = some s → s.real → ∃ t : S, (restT own τ τ1)[i]? = some t ∧ t.real := fun i s e q => by
    have hi : i < τ.length := (List.getElem?_eq_some_iff.mp e).1
    rw [restT_get hi]
    by_cases hm : i ∈ own
    · rw [if_pos (by simpa using hm)]
      refine ⟨_, rfl, ?_⟩
      rw [List.getD_eq_getElem?_getD, e, Option.getD_some]
      exact q
    · rw [if_neg (by simpa using hm)]
      have ew : (wipeT own τ)[i]? = some s := by rw [wipeT_get, if_neg hm]; exact e
      obtain ⟨t, h1, h2⟩ := realOk_at ok ew q
      refine ⟨_, rfl, ?_⟩
      rw [List.getD_eq_getElem?_getD, h1, Option.getD_some]
      exact h2
  have quiet : Quiet (x ++ (valsOf (σ.zip τ) ++ tm.filter isQ)) := quiet_app qx (quiet_app valsOf_quiet isQ_quiet)
  have oneT : ∀ p ∈ x ++ tm, One F Φ H σ (restT own τ τ1) p := fun p hp => by
    rcases List.mem_append.mp hp with h | h
    · exact (r.one p (List.mem_append_right _ (List.mem_append_left _ h))).slots (qx p h)
    · by_cases hq : isQ p = true
      · have hf := List.mem_filter.mpr ⟨h, hq⟩
        exact (r.one p (List.mem_append_right _ (List.mem_append_right _ (List.mem_append_right _ hf)))).slots (isQ_quiet p hf)
      · obtain ⟨v, s⟩ := p
        cases s with
        | ali i =>
          obtain ⟨y, s, e1, e2, e3, e4⟩ := r0.one (v, .ali i) (List.mem_append_right _ h)
          obtain ⟨t, f1, f2⟩ := real i s e3 e4
          exact ⟨y, t, e1, e2, f1, f2⟩
        | _ => exact absurd rfl hq
  obtain ⟨n1, n2, n3⟩ := List.pairwise_append.mp r.nd
  have airPw : (x ++ tm).Pairwise Apart := by
    refine pw_filter (q := isQ) ?_ fun p _ h => holds_notQ h
    rw [List.filter_append]
    have ex : x.filter isQ = x := List.filter_eq_self.mpr fun p hp => by
      have := qx p hp
      obtain ⟨v, s⟩ := p
      cases s <;> first | rfl | exact this.elim
    rw [ex]
    exact n2.sublist (List.Sublist.append_left (List.sublist_append_right _ _) _)
  refine ⟨by rw [restT_length]; exact r0.len, fl, r.le0, r.le, r.pres, r.dom, r.new, fun p hp => (List.mem_append.mp hp).elim (fun h => (oneS p h).1) (oneT p), ?_, r.tabs⟩
  refine List.pairwise_append.mpr ⟨?_, airPw, fun a ha b hb => ?_⟩
  · rw [List.pairwise_iff_getElem] at n1 ⊢
    intro i j hi hj lt
    have gi := List.getElem?_eq_getElem hi
    have gj := List.getElem?_eq_getElem hj
    generalize (σ.zip (restT own τ τ1))[i] = p at gi ⊢
    generalize (σ.zip (restT own τ τ1))[j] = q at gj ⊢
    obtain ⟨pv, ps⟩ := p
    obtain ⟨qv, qs⟩ := q
    rcases ent gi with ⟨hm, e1, e2⟩ | ⟨hm, e⟩
    · have := plain i hm ps e2
      cases ps <;> first | exact apart_none holds_val | exact apart_none holds_non | cases this
    · rcases ent gj with ⟨hm2, e1, e2⟩ | ⟨hm2, e2⟩
      · have := plain j hm2 qs e2
        cases qs <;> first | exact (apart_none holds_val).symm | exact (apart_none holds_non).symm | cases this
      · obtain ⟨x1, x2⟩ := List.getElem?_eq_some_iff.mp e
        obtain ⟨y1, y2⟩ := List.getElem?_eq_some_iff.mp e2
        have := n1 i j x1 y1 lt
        rw [x2, y2] at this
        exact this
  · rcases (oneS a ha).2 with h | ⟨j, h⟩
    · exact apart_none h
    · by_cases hq : isQ b = true
      · have hb' : b ∈ x ++ (valsOf (σ.zip τ) ++ tm.filter isQ) := by
          rcases List.mem_append.mp hb with z | z
          · exact List.mem_append_left _ z
          · exact List.mem_append_right _ (List.mem_append_right _ (List.mem_filter.mpr ⟨z, hq⟩))
        exact n3 a (List.mem_of_getElem? h) b hb'
      · exact (apart_none (holds_notQ (by simpa using hq))).symm
/-- a list of ours that hangs in the air is written -/
theorem Rl.wroteAir {a : Addr} {o o' : O} {u u' : HO} (r : Rl F Φ H σ τ ((some (.ref a), .own o) :: tm)) (h : H a = some u) (h1 : ∀ ps, u ≠ .tbl ps) (h2 : ∀ φ, u ≠ .ext φ) (w : Ow F.G Φ (upd H a u') a o') : Rl F Φ (upd H a u') σ τ ((some (.ref a), .own o') :: tm) := by
  obtain ⟨b, e1, q1, q2, q3⟩ := r.hd
  cases e1
  have pm : ∀ {y : S}, (both σ τ ((some (.ref a), y) :: tm)).Perm ((some (.ref a), y) :: both σ τ tm) := fun {y} => List.perm_middle
  obtain ⟨n1, n2⟩ := List.pairwise_cons.mp ((pm.pairwise_iff fun h => Apart.symm h).mp r.nd)
  refine ⟨r.len, r.fl, r.le0, fun b z q => ?_, fun b z e n t => ?_, fun b q => ?_, r.new, fun p hp => ?_, (pm.pairwise_iff fun h => Apart.symm h).mpr (List.pairwise_cons.mpr ⟨fun p hp b hb hq => ?_, n2⟩), ⟨tabs_write r.tabs.1 h h1 h2, r.tabs.2⟩⟩
  · rw [upd_ne (fun x => by rw [x, q2] at q; cases q)]
    exact r.le _ _ q
  · rw [upd_ne (fun x => by rw [x, q3] at e; cases e)]
    exact r.pres b z e n t
  · by_cases x : b = a
    · subst x; rw [upd_same] at q; cases q
    · rw [upd_ne x] at q; exact r.dom b q
  · rcases List.mem_cons.mp (pm.mem_iff.mp hp) with e | hp
    · rw [e]
      exact ⟨a, rfl, w, q2, q3⟩
    · have op := r.one p (pm.mem_iff.mpr (List.mem_cons_of_mem _ hp))
      refine op.step (Le.refl _) fun b hb => ⟨fun z e _ => ?_, (op.own hb).1⟩
      rw [upd_ne (fun x => n1 p hp a rfl (by rw [← x]; exact hb))]
      exact e
  · cases hb
    exact n1 p hp a rfl hq
theorem Fits.blk (ft : Fits X F W) (s : Shared) (H : Hp) (scope : Scope) (cenv : Env) (fp : List Addr) : Fits (X.blk s H scope cenv fp) F W0 := ⟨ft.calm, ft.nd, ft.K, takes0, PassesOwn.never⟩
end
section
variable {X : Cx} {F : Fm} {W : WX} {Φ Φ' H H' : Hp} {σ : L2.St} {τ τ1 τ' : List S} {tm : Env1} {elt tg iter : Expr} {ifs : List Expr} {scope : Scope} {pos : Pos} {own : List (Str × Nat)} {is : List Nat} {mi : M (List D × Pin)} {g : MG} {test : M Bool} {me : M S}
theorem Wp.exc {α : Type} {c : Str} {fs : List (Str × D)} {K : α → List S → Prop} (h : Wp F W tm (.exc c fs τ) K) : ∀ cls d σ H Φ, Rl F Φ H σ τ tm → ExR F Φ H cls d c fs → W cls d σ H := h
/-- nothing raises in a run that ends well -/
theorem quietRun {α β : Type} {m : M α} {f : α → M β} {τ : List S} {r : β × List S} (h : M.bnd m f τ = .ok r) {K : α → List S → Prop} (k : ∀ a τ', m τ = .ok (a, τ') → f a τ' = .ok r → K a τ') : Wp F W0 tm (m τ) K := by
  obtain ⟨a, τ1, e1, e2⟩ := bnd_ok h
  rw [e1]
  exact k a τ1 e1 e2
theorem pts_m (h : BM X F W elt test) : PTs X [elt] (TBm F W test) := pts_one h
theorem pts_yes : PTs X [] (TBm F W bYes) := ⟨fun pins s σ H Q I ⟨Φ, τ, tm, r, h⟩ => pts_nil.run pins s σ H Q I (h H Φ r)⟩
/-- the reading of a comprehension -/
theorem t_comp {Q : VK} (sub : ∀ i ∈ is, i ∈ own.map (·.2)) (h : TEm F W (eComp (own.map (·.2)) mi g test me) σ H Q) : tLc (TIm F W mi) (TGm F W0 is g) (TBm F W0 test) (TEm F W0 me) (own.map (·.2)) σ H Q := by
  generalize hw : own.map (·.2) = ow at h sub ⊢
  obtain ⟨Φ, τ, tm, r, h⟩ := h
  refine ⟨Φ, τ, tm, r, (Wp.bnd h).mono fun p τ1 h1 J H1 Φ1 base qb r1 pn ys D hD => ?_⟩
  obtain ⟨its, pin⟩ := p
  simp only at h1 pn ys
  split at h1
  · rename_i pl
    cases hc : (M.bnd (chk pin) fun _ => compM ow pin g test me its []) (wipeT ow τ1) with
    | stuck => rw [hc] at h1; exact h1.elim
    | exc _ _ _ => rw [hc] at h1; exact h1.elim
    | ok p =>
      obtain ⟨ds, τ2⟩ := p
      rw [hc] at h1
      simp only at h1
      split at h1
      · rename_i ok
        obtain ⟨_, τc, ec, hcm⟩ := bnd_ok hc
        have pnw : pin (wipeT ow τ1) ∧ τc = wipeT ow τ1 := by
          unfold chk at ec
          split at ec
          · cases ec; exact ⟨by assumption, rfl⟩
          · cases ec
        obtain ⟨pnw, rfl⟩ := pnw
        -- what hangs in the air within
        have qs : Quiet (valsOf (σ.zip τ1) ++ tm.filter isQ) := quiet_app valsOf_quiet isQ_quiet
        have fr : Fz F.G Φ1 .non .non := .non
        -- at the start
        have r2 : Rl F Φ1 H1 σ τ1 (base ++ (valsOf (σ.zip τ1) ++ tm.filter isQ)) := by
          have rb := (r1.saved).air (tm' := base ++ (valsOf (σ.zip τ1) ++ tm.filter isQ)) (by
            refine ⟨valsOf (σ.zip τ1) ++ (base ++ tm.filter isQ), ?_, List.Sublist.append_left (List.Sublist.append_left List.filter_sublist _) _⟩
            rw [← List.append_assoc, ← List.append_assoc]
            exact List.Perm.append_right _ List.perm_append_comm)
          exact rb
        have r3 : Rl F Φ1 (upd H1 D (.lst [])) (wipe σ ow) (wipeT ow τ1) ((some (.ref D), .own (.lst [])) :: (base ++ (valsOf (σ.zip τ1) ++ tm.filter isQ))) := (r2.wiped (quiet_app qb qs) ow).mine hD .nil
        refine ⟨fun i m H => ∃ Φ τ acc, Rl F Φ H (wipe σ ow) τ ((some (.ref D), .own (.lst acc)) :: (base ++ (valsOf (σ.zip τ1) ++ tm.filter isQ))) ∧ pin τ ∧ m = its.length - i ∧ compM ow pin g test me (its.drop i) acc τ = .ok (ds, τ2), ⟨its.length, Φ1, wipeT ow τ1, [], r3, pnw, by simp, by rw [List.drop_zero]; exact hcm⟩, ?_⟩
        rintro i m H3 ⟨Φ3, τ3, acc, r4, pn3, rfl, h3⟩
        have r4' : Rl F Φ3 H3 (wipe σ ow) τ3 (base ++ ((some (.ref D), .own (.lst acc)) :: (valsOf (σ.zip τ1) ++ tm.filter isQ))) := r4.air (.perm List.perm_middle.symm)
        obtain ⟨y1, y2⟩ := ys (i := i) r4' pn3
        by_cases hlt : i < its.length
        · obtain ⟨d, hd⟩ : ∃ d, its[i]? = some d := ⟨its[i], List.getElem?_eq_getElem hlt⟩
          obtain ⟨go, yl⟩ := y1 d hd
          rw [List.drop_eq_getElem_cons hlt] at h3
          have ed : its[i] = d := by rw [List.getElem?_eq_getElem hlt] at hd; exact Option.some.inj hd
          rw [ed] at h3
          refine .inr ⟨go, fun H' => ∃ Φ τ acc, Rl F Φ H' (wipe σ ow) τ ((some (.ref D), .own (.lst acc)) :: (base ++ (valsOf (σ.zip τ1) ++ tm.filter isQ))) ∧ pin τ ∧ compM ow pin g test me (its.drop (i + 1)) acc τ = .ok (ds, τ2), fun H' ⟨Φ5, τ5, acc5, r5, pn5, h5⟩ => ⟨its.length - (i + 1), by omega, Φ5, τ5, acc5, r5, pn5, rfl, h5⟩, fun x H4 hy => ?_⟩
          obtain ⟨Φ4, r5⟩ := yl x H4 hy
          have qD : Quiet (base ++ ((some (V.ref D), S.own (.lst acc)) :: (valsOf (σ.zip τ1) ++ tm.filter isQ))) := quiet_app qb fun p hp => by
            rcases List.mem_cons.mp hp with e | hp
            · rw [e]; trivial
            · exact qs p hp
          refine ⟨Φ4, τ3, base ++ ((some (.ref D), .own (.lst acc)) :: (valsOf (σ.zip τ1) ++ tm.filter isQ)), .val d, trivial, qD, r5, ?_⟩
          unfold compM at h3
          refine quietRun h3 fun _ τ4 e4 h4 σ6 H6 Φ6 r6 b6 => ⟨wipe_but b6 sub, ?_⟩
          have wb : wipe σ6 ow = wipe σ ow := wipe_but b6 sub
          -- the turn's end
          have fin : ∀ {H' Φ' τ' acc'}, Rl F Φ' H' σ6 τ' (base ++ ((some (V.ref D), S.own (.lst acc')) :: (valsOf (σ.zip τ1) ++ tm.filter isQ))) → Quiet (base ++ ((some (V.ref D), S.own (.lst acc')) :: (valsOf (σ.zip τ1) ++ tm.filter isQ))) → (M.bnd (wip ow) fun _ => M.bnd (chk pin) fun _ => compM ow pin g test me (its.drop (i + 1)) acc') τ' = .ok (ds, τ2) →
              ∃ Φ τ acc, Rl F Φ H' (wipe σ ow) τ ((some (.ref D), .own (.lst acc)) :: (base ++ (valsOf (σ.zip τ1) ++ tm.filter isQ))) ∧ pin τ ∧ compM ow pin g test me (its.drop (i + 1)) acc τ = .ok (ds, τ2) := fun {H' Φ' τ' acc'} r' q' h' => by
            obtain ⟨_, τ7, e7, h7⟩ := bnd_ok h'
            cases e7
            obtain ⟨_, τ8, e8, h8⟩ := bnd_ok h7
            unfold chk at e8
            split at e8
            · rename_i pn8
              cases e8
              have r7 := r'.wiped q' ow
              rw [wb] at r7
              exact ⟨Φ', _, acc', r7.air (.perm List.perm_middle), pn8, h8⟩
            · cases e8
          refine ⟨Φ6, τ4, _, r6, quietRun h4 fun b τ5 e5 h5 H7 Φ7 r7 => ?_⟩
          cases b with
          | false =>
            rw [if_neg Bool.false_ne_true] at h5 ⊢
            exact fin r7 qD h5
          | true =>
            rw [if_pos rfl] at h5 ⊢
            refine ⟨Φ7, τ5, _, r7, quietRun h5 fun s τ6 e6 h6 y H8 Φ8 r8 => ?_⟩
            obtain ⟨yd, τ9, e9, h9⟩ := bnd_ok h6
            obtain ⟨Φ9, r9⟩ := Rl.taken r8 e9
            obtain ⟨u, τa, ea, ha⟩ := bnd_ok h9
            have fl : fitL (acc.length + 1) = some u ∧ τa = τ9 := by
              unfold M.of at ea
              split at ea
              · cases ea; exact ⟨by assumption, rfl⟩
              · cases ea
            obtain ⟨fl, rfl⟩ := fl
            have hz := fit_ok fl
            have r10 : Rl F Φ9 H8 σ6 τa ((some (.ref D), .own (.lst acc)) :: ((some y, .val yd) :: (base ++ (valsOf (σ.zip τ1) ++ tm.filter isQ)))) := r9.air (.perm (by
              refine List.Perm.trans ?_ (List.Perm.swap _ _ _)
              exact List.Perm.cons _ List.perm_middle))
            obtain ⟨a, e1, ⟨vs, hs, ft⟩, _, _⟩ := r10.hd
            cases e1
            obtain ⟨yy, e2, fy⟩ := r10.tl.hd
            cases e2
            refine ⟨vs, hs, by rw [ft.length]; omega, ?_⟩
            have r11 := r10.wroteAir (o' := .lst (acc ++ [yd])) (u' := .lst (vs ++ [y])) hs (fun _ z => by cases z) (fun _ z => by cases z) ⟨vs ++ [y], upd_same, FzL.append ft (.cons fy .nil)⟩
            have r12 : Rl F Φ9 (upd H8 D (.lst (vs ++ [y]))) σ6 τa (base ++ ((some (V.ref D), S.own (.lst (acc ++ [yd]))) :: (valsOf (σ.zip τ1) ++ tm.filter isQ))) := r11.air (by
              refine ⟨(some (V.ref D), S.own (.lst (acc ++ [yd]))) :: (base ++ (valsOf (σ.zip τ1) ++ tm.filter isQ)), List.perm_middle.symm, List.Sublist.cons_cons _ (List.sublist_cons_self _ _)⟩)
            exact fin r12 (quiet_app qb fun p hp => by
              rcases List.mem_cons.mp hp with e | hp
              · rw [e]; trivial
              · exact qs p hp) ha
        · have hle : its.length ≤ i := by omega
          rw [List.drop_eq_nil_of_le hle] at h3
          unfold compM at h3
          cases h3
          have r5 : Rl F Φ3 H3 (wipe σ ow) τ2 ([(some (.ref D), .own (.lst ds))] ++ (valsOf (σ.zip τ1) ++ tm.filter isQ)) := r4.air (.of (List.Sublist.cons_cons _ (List.sublist_append_right _ _)))
          exact .inl ⟨y2 hle, h1 (.ref D) H3 Φ3 (r1.unbase.rest r5 (fun p hp => by
            cases hp with
            | head => trivial
            | tail _ h => cases h) pl ok)⟩
      · exact h1.elim
  · exact h1.elim
end
end Mi

/-! ### M10: comprehensions as rules; append, x[i] = v, slices -/
namespace Mi
open PySem PySem.Spec PyProof.Rows L2
section
variable {X : Cx} {F : Fm} {W : WX} {Φ Φ' H H' : Hp} {σ : L2.St} {τ τ1 τ' : List S} {tm : Env1} {elt tg iter : Expr} {ifs : List Expr} {scope : Scope} {pos : Pos} {own : List (Str × Nat)} {is : List Nat} {mi : M (List D × Pin)} {g : MG} {test : M Bool} {me : M S}
abbrev TsM (X : Cx) (F : Fm) (W : WX) (ifs : List Expr) (m : M Bool) : Prop := PTs X ifs (TBm F W m)
theorem em_comp (own : List (Str × Nat)) (ft : Fits X F W) (hi : IM X F W tg iter mi)
    (hg : ∀ (s : Shared) (H : Hp) (C : Addr) (cl : List (Str × Addr)) (fp : List Addr), Fits (X.blk s H scope (compEnvC scope cl C X.env) fp) F W0 → GM (X.blk s H scope (compEnvC scope cl C X.env) fp) F W0 tg is g)
    (ht : ∀ (s : Shared) (H : Hp) (C : Addr) (cl : List (Str × Addr)) (fp : List Addr), Fits (X.blk s H scope (compEnvC scope cl C X.env) fp) F W0 → TsM (X.blk s H scope (compEnvC scope cl C X.env) fp) F W0 ifs test)
    (he : ∀ (s : Shared) (H : Hp) (C : Addr) (cl : List (Str × Addr)) (fp : List Addr), Fits (X.blk s H scope (compEnvC scope cl C X.env) fp) F W0 → EM (X.blk s H scope (compEnvC scope cl C X.env) fp) F W0 elt me)
    (ok : blkC X.N X.env.scope scope own = true := by first | kernel_rfl | decide +kernel) (sub : (is.all fun i => (own.map (·.2)).contains i) = true := by decide) (hs : ∀ x, foldedSetIterable iter X.env x = pure x := by intro _; rfl) :
    EM X F W (.ListComp elt [⟨tg, iter, ifs, 0⟩] scope pos) (eComp (own.map (·.2)) mi g test me) :=
  PE.imp (pe_lc ft.calm ft.nd hi (blkOk_by ok) (fun s H C cl fp => hg s H C cl fp (ft.blk s H scope _ fp)) (fun s H C cl fp => ht s H C cl fp (ft.blk s H scope _ fp)) (fun s H C cl fp => he s H C cl fp (ft.blk s H scope _ fp)) hs)
    fun σ H Q h => t_comp (fun i hi => by simpa using List.all_eq_true.mp sub i hi) h
/-- y = [..] on one line -/
theorem sm_setComp (i : Nat) (own : List (Str × Nat)) {y : Str} {py spos : Pos} (ft : Fits X F W) (hi : IM X F W tg iter mi)
    (hg : ∀ (s : Shared) (H : Hp) (C : Addr) (cl : List (Str × Addr)) (fp : List Addr), Fits (X.blk s H scope (compEnvC scope cl C X.env) fp) F W0 → GM (X.blk s H scope (compEnvC scope cl C X.env) fp) F W0 tg is g)
    (ht : ∀ (s : Shared) (H : Hp) (C : Addr) (cl : List (Str × Addr)) (fp : List Addr), Fits (X.blk s H scope (compEnvC scope cl C X.env) fp) F W0 → TsM (X.blk s H scope (compEnvC scope cl C X.env) fp) F W0 ifs test)
    (he : ∀ (s : Shared) (H : Hp) (C : Addr) (cl : List (Str × Addr)) (fp : List Addr), Fits (X.blk s H scope (compEnvC scope cl C X.env) fp) F W0 → EM (X.blk s H scope (compEnvC scope cl C X.env) fp) F W0 elt me)
    (hy : X.N[i]? = some y := by rfl) (hyl : X.env.scope.names.lookup y = some .local := by rfl) (hsw : swapsWith (.ListComp elt [⟨tg, iter, ifs, 0⟩] scope pos) (some (.Name y py)) spos.line X.env = pure true := by exact sw_true rfl rfl rfl (by decide +kernel))
    (ok : blkC X.N X.env.scope scope own = true := by first | kernel_rfl | decide +kernel) (sub : (is.all fun i => (own.map (·.2)).contains i) = true := by decide) (hs : ∀ x, foldedSetIterable iter X.env x = pure x := by intro _; rfl) :
    SM X F W (.Assign [.Name y py] (.ListComp elt [⟨tg, iter, ifs, 0⟩] scope pos) spos) (sAsg i (eComp (own.map (·.2)) mi g test me)) :=
  PS.imp (ps_setLc ft.calm ft.nd hy hyl hsw hi (blkOk_by ok) (fun s H C cl fp => hg s H C cl fp (ft.blk s H scope _ fp)) (fun s H C cl fp => ht s H C cl fp (ft.blk s H scope _ fp)) (fun s H C cl fp => he s H C cl fp (ft.blk s H scope _ fp)) hs)
    fun D σ H ⟨Φ, τ, tm, qt, r, h⟩ => t_comp (fun i hi => by simpa using List.all_eq_true.mp sub i hi) (te_go r (Wp.bnd h) fun s τ1 v H1 Φ1 p r1 => by
      obtain ⟨s', τ2, Φ2, na, r2, k⟩ := give_cases r1 (Wp.bnd p)
      exact k _ _ _ (r2.store na qt i))

/-! #### append, x[i] = v -/
def isL (s : S) : M Unit := fun τ => match s with
  | .ali k => (match τ[k]? with
    | some (.own (.lst _)) => .ok ((), τ)
    | some (.lent _ (.lst _)) => .ok ((), τ)
    | _ => .stuck)
  | _ => .stuck
/-- the list in the slot k is written -/
def onL (k : Nat) (f : List D → Option (List D)) : M Unit := fun τ => match τ[k]? with
  | some (.own (.lst xs)) => (match f xs with
    | some ys => .ok ((), τ.set k (.own (.lst ys)))
    | none => .stuck)
  | some (.lent j (.lst xs)) => (match f xs with
    | some ys => .ok ((), τ.set k (.lent j (.lst ys)))
    | none => .stuck)
  | _ => .stuck
def app1 (d : D) (xs : List D) : Option (List D) := if xs.length < sizeLine then some (xs ++ [d]) else none
def eAppend (mo : M S) (ms : M (List S)) : M S := M.bnd mo fun s => M.bnd (isL s) fun _ => M.bnd ms fun ss => match s, ss with
  | .ali k, [t] => M.bnd (take t) fun d => M.bnd (onL k (app1 d)) fun _ => M.ret (.val .non)
  | _, _ => fun _ => .stuck
theorem onL_cases {tm0 : Env1} {k : Nat} {f : List D → Option (List D)} {K : Unit → List S → Prop} (r : Rl F Φ H σ τ tm) (h : Wp F W tm0 (onL k f τ) K) : ∃ a xs vs ys s s' , σ[k]? = some (some (.ref a)) ∧ H a = some (.lst vs) ∧ FzL F.G Φ vs xs ∧ f xs = some ys ∧ Kin s s' (.lst xs) (.lst ys) ∧ τ[k]? = some s ∧ K () (τ.set k s') := by
  unfold onL at h
  cases e : τ[k]? with
  | none => rw [e] at h; exact h.elim
  | some s =>
    rw [e] at h
    obtain ⟨v, e1, _, o⟩ := r.at e
    cases s with
    | own ob =>
      cases ob with
      | ins _ _ => exact h.elim
      | lst xs =>
        simp only at h
        cases q : f xs with
        | none => rw [q] at h; exact h.elim
        | some ys =>
          rw [q] at h
          obtain ⟨a, e2, ⟨vs, hs, t⟩, _⟩ := o
          subst e2
          exact ⟨a, xs, vs, ys, _, _, e1, hs, t, q, .own _ _, rfl, h⟩
    | lent j ob =>
      cases ob with
      | ins _ _ => exact h.elim
      | lst xs =>
        simp only at h
        cases q : f xs with
        | none => rw [q] at h; exact h.elim
        | some ys =>
          rw [q] at h
          obtain ⟨a, e2, ⟨vs, hs, t⟩, _⟩ := o
          subst e2
          exact ⟨a, xs, vs, ys, _, _, e1, hs, t, q, .lent j _ _, rfl, h⟩
    | raw => exact h.elim
    | non => exact h.elim
    | val _ => exact h.elim
    | ali _ => exact h.elim
theorem isL_cases {tm0 : Env1} {v : V} {s : S} {K : Unit → List S → Prop} (r : Rl F Φ H σ τ ((some v, s) :: tm)) (h : Wp F W tm0 (isL s τ) K) : ∃ a k vs, v = .ref a ∧ s = .ali k ∧ σ[k]? = some (some (.ref a)) ∧ H a = some (.lst vs) ∧ K () τ := by
  unfold isL at h
  cases s with
  | ali k =>
    simp only at h
    obtain ⟨x, s, e1, e2, e3, _⟩ := r.hd
    cases e1
    rw [e3] at h
    obtain ⟨w, e4, _, o⟩ := r.at e3
    rw [e2] at e4
    cases e4
    cases s with
    | own ob =>
      cases ob with
      | ins _ _ => exact h.elim
      | lst xs =>
        obtain ⟨a, e5, ⟨vs, hs, t⟩, _⟩ := o
        cases e5
        exact ⟨a, k, vs, rfl, rfl, e2, hs, h⟩
    | lent j ob =>
      cases ob with
      | ins _ _ => exact h.elim
      | lst xs =>
        obtain ⟨a, e5, ⟨vs, hs, t⟩, _⟩ := o
        cases e5
        exact ⟨a, k, vs, rfl, rfl, e2, hs, h⟩
    | raw => exact h.elim
    | non => exact h.elim
    | val _ => exact h.elim
    | ali _ => exact h.elim
  | _ => exact h.elim
variable {o e : Expr} {mo mv mx : M S} {ms : M (List S)} {apos : Pos}
theorem em_append (ho : EM X F W o mo) (ha : LM X F W [e] ms) (hbase : attributeBase o "append" X.env (eval o X.env) = eval o X.env := by rfl)
    (hfew : ((backTo pos (starEach (e :: []) X.env)).all (fun x => !x.1) && (backToKw pos (keywordEach [] X.env)).all (fun x => x.1.isSome) && decide ((e :: []).length + ([] : List Keyword).length + (if ([] : List Keyword).isEmpty then 0 else 1) < 30)) = true := by rfl)
    (hline : (apos.endLine == pos.line) = true := by rfl) (hs : starEach (e :: []) X.env = (false, eval e X.env) :: starEach [] X.env := by rfl) (hplain : (backTo pos (starEach [] X.env)).any (·.1) = false := by rfl) :
    EM X F W (.Call (.Attribute o "append" apos) [e] [] pos) (eAppend mo ms) := PE.imp (pe_bm PySem.F.plainAttrs_list PySem.F.slot_list_append PySem.F.type_list_append mt_append ho ha hbase hfew hline hs hplain) fun σ H Q ⟨Φ, τ, tm, r, h⟩ => by
  refine te_go r (Wp.bnd h) fun s τ1 v H1 Φ1 p1 r1 => ?_
  obtain ⟨a, k, vs, rfl, rfl, es, hs, p2⟩ := isL_cases r1 (Wp.bnd p1)
  refine ⟨.inl ⟨rfl, vs, .inl (.inl hs)⟩, tl_go r1 (Wp.bnd p2) fun ss τ2 ws H2 Φ2 p3 l r2 => ?_⟩
  cases ss with
  | nil => exact p3.elim
  | cons t ss =>
    cases ss with
    | cons _ _ => exact p3.elim
    | nil =>
      obtain ⟨w, rfl⟩ : ∃ w, ws = [w] := by
        cases ws with
        | nil => cases l
        | cons w ws =>
          cases ws with
          | nil => exact ⟨w, rfl⟩
          | cons _ _ => cases l
      obtain ⟨d, τ3, e1, p4⟩ := take_cases (Wp.bnd p3)
      obtain ⟨Φ3, r3⟩ := Rl.taken (tm := (some (.ref a), .ali k) :: tm) r2 e1
      obtain ⟨y, e2, fy⟩ := r3.hd
      cases e2
      obtain ⟨a', xs, vs', ys, s, s', es', hs', t, q, ks, eτ, k2⟩ := onL_cases r3 (Wp.bnd p4)
      rw [es] at es'
      cases es'
      unfold app1 at q
      split at q
      · rename_i hz
        cases q
        refine ⟨a, vs', w, rfl, rfl, hs', by rw [t.length]; exact hz, ?_⟩
        have r4 := r3.tl.tl.wrote (u' := .lst (vs' ++ [w])) eτ es ks hs' (fun _ z => by cases z) (fun _ z => by cases z) ⟨_, upd_same, FzL.append t (.cons fy .nil)⟩
        exact k2 _ _ _ (r4.val .non)
      · cases q
def setD (i : D) (d : D) (xs : List D) : Option (List D) := match i with
  | .int n => (ixN xs.length n).map fun j => xs.set j d
  | _ => none
def sSetIx (mv mo mi : M S) : M Fl := M.bnd mv fun s => M.bnd (take s) fun d => M.bnd mo fun so => M.bnd mi fun si => M.bnd (peek si) fun i => match so with
  | .ali k => M.bnd (onL k (setD i d)) fun _ => M.ret .nx
  | _ => fun _ => .stuck
theorem sm_setIx {i : Expr} {ei : M S} {tpos : Pos} (hv : EM X F W e mv) (ho : EM X F W o mo) (hi : EM X F W i ei) (hs : swapsWithSole [.Subscript o i tpos] e pos.line X.env = pure false := by rfl) (hw : swappedStores [.Subscript o i tpos] e X.env = pure none := by rfl)
    (h1 : (assignEach [.Subscript o i tpos] X.env).map (·.2) = [assign (.Subscript o i tpos) X.env] := by rfl)
    (ha : ∀ v, assign (.Subscript o i tpos) X.env v = (do
      let ov ← holding [v] (eval o X.env)
      let iv ← holding [v, ov] (eval i X.env)
      standAt tpos
      holding [v, ov, iv] (setItem ov iv v)
      release [v, ov, iv] []) := by intro _; rfl) : SM X F W (.Assign [.Subscript o i tpos] e pos) (sSetIx mv mo ei) := PS.imp (ps_asg hv (pg_sub ho hi set_list ha) hs hw h1) fun D σ H ⟨Φ, τ, tm, qt, r, h⟩ => te_go r (Wp.bnd h) fun s τ1 v H1 Φ1 p1 r1 => by
  obtain ⟨d, τ2, e1, p2⟩ := take_cases (Wp.bnd p1)
  obtain ⟨Φ2, r2⟩ := Rl.taken r1 e1
  refine te_go r2 (Wp.bnd p2) fun so τ3 ov H3 Φ3 p3 r3 => te_go r3 (Wp.bnd p3) fun si τ4 iv H4 Φ4 p4 r4 => ?_
  obtain ⟨ix, e2, p5⟩ := Wp.peek (Wp.bnd p4)
  have rd := r4.peek r4.hd e2
  cases so with
  | ali k =>
    obtain ⟨x, s', e3, es, _⟩ := r4.tl.hd
    cases e3
    obtain ⟨y, e4, fy⟩ := r4.tl.tl.hd
    cases e4
    obtain ⟨a, xs, vs', ys, s, s2, es', hs', t, q, ks, eτ, k2⟩ := onL_cases r4 (Wp.bnd p5)
    rw [es] at es'
    cases es'
    unfold setD at q
    split at q
    · rename_i n
      obtain ⟨jx, e5, e6⟩ := Option.map_eq_some_iff.mp q
      subst e6
      refine ⟨a, vs', n, jx, rfl, rd.int, hs', by rw [t.length]; exact e5, ?_⟩
      have r5 := r4.tl.tl.tl.wrote (u' := .lst (vs'.set jx v)) eτ es ks hs' (fun _ z => by cases z) (fun _ z => by cases z) ⟨_, upd_same, FzL.set jx t fy⟩
      exact k2 _ _ _ r5
    · cases q
  | _ => exact p5.elim

/-! #### slices -/
def cut {α : Type} (xs : List α) (lo hi : Option Int) : List α := (xs.drop (HT.sIx xs.length 0 lo)).take (HT.sIx xs.length xs.length hi - HT.sIx xs.length 0 lo)
def fSl : D → Option Int → Option Int → Option S
  | .lst xs, lo, hi => some (.own (.lst (cut xs lo hi)))
  | .scr xs, lo, hi => some (.own (.lst (cut xs lo hi)))
  | .tup xs, lo, hi => if HT.sIx xs.length 0 lo = 0 ∧ HT.sIx xs.length xs.length hi = xs.length then none else some (.val (.tup (cut xs lo hi)))
  | _, _, _ => none
def asI : D → Option Int
  | .int i => some i
  | _ => none
def pNone : M (Option Int) := M.ret none
def pSome (m : M S) : M (Option Int) := M.bnd m fun s => M.bnd (peek s) fun d => M.bnd (M.of (asI d)) fun i => M.ret (some i)
def TOm (F : Fm) (W : WX) (m : M (Option Int)) : TO := fun σ H Q => ∃ Φ τ tm, Rl F Φ H σ τ tm ∧ Wp F W tm (m τ) fun o τ' => ∀ H' Φ', Rl F Φ' H' σ τ' tm → Q o H'
abbrev OM (X : Cx) (F : Fm) (W : WX) (e : Option Expr) (m : M (Option Int)) : Prop := PO X e (TOm F W m)
theorem PO.imp {e : Option Expr} {t t' : TO} (h : PO X e t) (i : ∀ σ H Q, t' σ H Q → t σ H Q) : PO X e t' := ⟨fun pins s σ H Q I q => h.run pins s σ H Q I (i _ _ _ q)⟩
theorem om_none : OM X F W none pNone := PO.imp po_none fun σ H Q ⟨Φ, τ, tm, r, h⟩ => h H Φ r
theorem om_some (h : EM X F W e mx) : OM X F W (some e) (pSome mx) := PO.imp (po_some h) fun σ H Q ⟨Φ, τ, tm, r, h⟩ => te_go r (Wp.bnd h) fun s τ1 v H1 Φ1 p1 r1 => by
  obtain ⟨d, e1, p2⟩ := Wp.peek (Wp.bnd p1)
  obtain ⟨i, e2, k⟩ := Wp.of (Wp.bnd p2)
  have rd := r1.peek r1.hd e1
  cases d with
  | int j => cases e2; exact ⟨_, rd.int, k H1 Φ1 r1.tl⟩
  | _ => cases e2
def eSl (mx : M S) (ml mh : M (Option Int)) : M S := M.bnd mx fun s => M.bnd ml fun lo => M.bnd mh fun hi => M.bnd (peek s) fun d => M.of (fSl d lo hi)
theorem cut_fz {G : Gx} {vs : List V} {ds : List D} {lo hi : Option Int} (q : FzL G Φ vs ds) : FzL G Φ (cutV vs lo hi) (cut ds lo hi) := by
  unfold cutV cut
  rw [q.length]
  exact FzL.take _ (FzL.drop _ q)
theorem em_sl {lo hi : Option Expr} {ml mh : M (Option Int)} {p2 : Pos} (hK : X.K = F.G.K) (hx : EM X F W e mx) (hl : OM X F W lo ml) (hh : OM X F W hi mh) : EM X F W (.Subscript e (.Slice lo hi none p2) pos) (eSl mx ml mh) := PE.imp (pe_slice (sl_list.or sl_tup) hx hl hh) fun σ H Q ⟨Φ, τ, tm, r, h⟩ => te_go r (Wp.bnd h) fun s τ1 v H1 Φ1 p1 r1 => by
  refine ⟨Φ1, τ1, _, r1, ((Wp.bnd p1).air (Subp.cons' (Subp.of (List.Sublist.refl _)))).mono fun lo' τ2 p2 H2 Φ2 r2 => ⟨Φ2, τ2, _, r2, ((Wp.bnd p2).air (Subp.cons' (Subp.of (List.Sublist.refl _)))).mono fun hi' τ3 p3 H3 Φ3 r3 => ?_⟩⟩
  obtain ⟨d, e1, p4⟩ := Wp.peek (Wp.bnd p3)
  obtain ⟨s', e2, k⟩ := Wp.of p4
  have rd := r3.peek r3.hd e1
  unfold fSl at e2
  split at e2
  · cases e2
    obtain ⟨a, vs, e3, e4, q⟩ := rd.lst r3.le
    exact .inl ⟨a, vs, e3, .inl (.inl e4), fun p hp => k _ _ _ (r3.tl.mine hp (cut_fz q))⟩
  · cases e2
    obtain ⟨a, vs, e3, e4, q⟩ := rd.scr r3.le
    exact .inl ⟨a, vs, e3, by rw [hK]; exact e4, fun p hp => k _ _ _ (r3.tl.mine hp (cut_fz q))⟩
  · split at e2
    · cases e2
    · rename_i hz
      cases e2
      obtain ⟨a, vs, e3, e4, q⟩ := rd.tup r3.le
      exact .inr ⟨a, vs, e3, by rw [hK]; exact e4, by rw [q.length]; exact hz, fun p hp => k _ _ _ (r3.tl.tuple hp (cut_fz q))⟩
  · cases e2
end
end Mi

/-! ### M11: errors raised and caught -/
namespace Mi
open PySem PySem.Spec PyProof.Rows L2

/-- an __init__ that stores its parameters under their names: f ⟨self, v ..⟩ -/
def spExi (K : PySem.W.Frag) (fs : List Str) : Sp := fun vs H Q _ => ∃ (a C : Addr) (ws : List V), vs = .ref a :: ws ∧ ws.length = fs.length ∧ fs.length ≤ 100 ∧ OexC K C ∧ (∀ f ∈ fs, PySem.W.findIn K (.ref C) f = some none) ∧ H a = some (exo a C none) ∧
  ∀ dx, H dx = none → dx ≠ a → Q .non (upd (upd H dx (exd dx (fs.zip ws).reverse)) a (exo a C (some dx)))
structure ExcOk (P : Program) (w : World) (K : PySem.W.Frag) (mg : Str → Option Value) (base : Heap) (G : Gx) (j : Nat) (x : Str) (fs : List Str) : Prop where
  ex : ∃ C fI fd ps, G.cls x = some C ∧ mg x = some (.ref C) ∧ OexC K C ∧ PySem.W.findIn K (.ref C) "__init__" = some (some (.ref fI)) ∧ PySem.W.typeIn K (.ref fI) = some (.type "function") ∧
    FnOk P w K mg base (L2.CX P w) j fI fd ps (spExi K fs) ∧ Binds K fd ps [] ∧ ∀ f ∈ fs, PySem.W.findIn K (.ref C) f = some none
  few : fs.length ≤ 100
def sRaise (x : Str) (fs : List Str) (ms : M (List S)) : M Fl := M.bnd ms fun ss => M.bnd (takeAll ss) fun ds => fun τ => if ds.length = fs.length then .exc x (fs.zip ds).reverse τ else .stuck
section
variable {X : Cx} {F : Fm} {W : WX} {Φ Φ' H H' : Hp} {σ : L2.St} {τ τ' : List S} {tm : Env1}
theorem FzF.append {G : Gx} : ∀ {vs ws : List (Str × V)} {ds es : List (Str × D)}, FzF G Φ vs ds → FzF G Φ ws es → FzF G Φ (vs ++ ws) (ds ++ es)
  | _, _, _, _, .nil, h => h
  | _, _, _, _, .cons h t, q => .cons h (FzF.append t q)
theorem FzF.reverse {G : Gx} : ∀ {vs : List (Str × V)} {ds : List (Str × D)}, FzF G Φ vs ds → FzF G Φ vs.reverse ds.reverse
  | _, _, .nil => .nil
  | _, _, .cons h t => by
    rw [List.reverse_cons, List.reverse_cons]
    exact FzF.append (FzF.reverse t) (.cons h .nil)
theorem FzF.zip {G : Gx} : ∀ {fs : List Str} {vs : List V} {ds : List D}, FzL G Φ vs ds → FzF G Φ (fs.zip vs) (fs.zip ds)
  | [], _, _, _ => .nil
  | _ :: _, _, _, .nil => .nil
  | _ :: _, _, _, .cons h t => .cons h (FzF.zip t)
theorem sm_raise {x : Str} {p p2 p3 : Pos} {a : Expr} {es : List Expr} {j : Nat} {fs : List Str} {ms : M (List S)} (ft : Fits X F W) (hr : Room (j + 1) X.A) (xo : ExcOk X.prog X.w X.K X.mg X.base F.G j x fs) (ha : LM X F W (a :: es) ms) (hg : Gl X x := by rfl) (hdb : (x == ("__debug__" : Str)) = false := by decide) (he : starEach (a :: es) X.env = (false, eval a X.env) :: starEach es X.env := by rfl) (hpl : (backTo p2 (starEach es X.env)).any (·.1) = false := by rfl) :
    SM X F W (.Raise (some (.Call (.Name x p) (a :: es) [] p2)) none p3) (sRaise x fs ms) := by
  obtain ⟨C, fI, fd, ps, gc, gm, T, iC, tI, G, b, nof⟩ := xo.ex
  refine PS.imp (ps_raise ft.calm ft.tk (pmk_oex T iC tI G hr b .nil passL hg gm ha hdb he hpl)) fun D σ H ⟨Φ, τ, tm, qt, r, h⟩ => ?_
  refine tl_go r (Wp.bnd h) fun ss τ1 vs H1 Φ1 p1 l r1 => ?_
  obtain ⟨ds, τ2, e, p2⟩ := takeAll_cases (Wp.bnd p1)
  obtain ⟨Φ2, r2, q⟩ := Rl.takenAll l r1 e
  split at p2
  · rename_i hz
    have lv : vs.length = fs.length := by rw [q.length]; exact hz
    refine ⟨by rw [lv]; have := xo.few; omega, fun a ha' => ⟨a, C, vs, by rw [List.append_nil], lv, xo.few, T, nof, upd_same, fun dx hdx ne => ⟨rfl, dx, (fs.zip vs).reverse, upd_same, ?_, ?_, ?_⟩⟩⟩
    · rw [upd_ne ne, upd_same]
    · rw [upd_ne ne] at hdx
      exact hdx
    · have hn : H1 dx = none := by rw [upd_ne ne] at hdx; exact hdx
      have eH : upd (del (upd (upd (upd H1 a (exo a C none)) dx (exd dx (fs.zip vs).reverse)) a (exo a C (some dx))) a) dx (.xd (fs.zip vs).reverse) = upd H1 dx (.xd (fs.zip vs).reverse) := by
        funext c
        by_cases h1 : c = dx
        · subst h1; rw [upd_same, upd_same]
        · rw [upd_ne h1, upd_ne h1]
          by_cases h2 : c = a
          · subst h2; rw [del_same]; exact ha'.symm
          · rw [del_ne h2, upd_ne h2, upd_ne h1, upd_ne h2]
      rw [eH]
      have r3 := r2.within (o := .xd (fs.zip vs).reverse) hn
      refine p2 (.ref C) (some dx) σ _ _ r3 ⟨C, gc, rfl, .inr ⟨dx, _, rfl, upd_same, ?_⟩⟩
      exact FzF.le (le_upd (r2.fre hn)) (FzF.reverse (FzF.zip q))
  · exact p2.elim

/-! #### caught -/
/-- an exception that landed is tracked from now on -/
theorem track {X : Cx} {pins : List (Addr × Obj)} {σ : L2.St} {H : Hp} {s : Shared} {a C : Addr} {d : Option Addr} {oe : Obj} {vs : Array Value} (I : Inv X pins σ H s) (he : s.heap.get? a = some oe) (hz : Zc (.ref C) d oe) (hd : oe.data = .fields vs) (hn : H a = none) (n0 : X.s_0.heap.get? a = none) (nL : a ≠ X.env.locals) (nC : ∀ y c, X.env.cells.lookup y = some c → c ≠ a)
    (nP : ∀ p ∈ X.pn ++ pins, p.1 ≠ a) : Inv X pins σ (upd H a (exn a C d)) s := by
  have ne : ∀ {b : Addr} {u : HO}, H b = some u → b ≠ a := fun {b u} q => ne_of_none q hn
  refine ⟨I.ok, I.os, I.bare, ⟨I.base.keep, I.base.slot, fun b o e n hx => ?_, I.base.there, fun b xs e => ?_, fun b o u e => ?_, fun b ps e => ?_⟩, I.loc, I.cell, ?_, fun y c e => ?_, fun p hp => ?_, fun b o e => ?_, I.len⟩
  · rw [upd_ne (fun z => by rw [z, n0] at e; cases e)]
    exact I.base.free b o e n hx
  · have q := I.base.tups b xs e
    rw [upd_ne (ne q)]
    exact q
  · have q := I.base.frzs b o u e
    rw [upd_ne (ne q)]
    exact q
  · obtain ⟨more, q⟩ := I.base.tbls b ps e
    exact ⟨more, by rw [upd_ne (ne q)]; exact q⟩
  · rw [upd_ne (Ne.symm nL)]
    exact I.free
  · rw [upd_ne (nC y c e)]
    exact I.freeC y c e
  · obtain ⟨e1, e2, e3, e4, e5⟩ := I.pin p hp
    exact ⟨e1, by rw [upd_ne (nP p hp)]; exact e2, e3, e4, e5⟩
  · by_cases hb : b = a
    · subst hb
      rw [upd_same] at e
      cases e
      refine ⟨⟨oe, vs, he, hz.1, hz.2, hd⟩, ⟨oe, he⟩, fun h1 h2 ⟨oe', vs', q1, q2, q3, q4⟩ k => ⟨oe', vs', k _ q1, q2, q3, q4⟩⟩
    · rw [upd_ne hb] at e
      exact (I.hok b o e).stay (fun c v _ z => z) (fun c hc => by rw [upd_ne (ne hc)]; exact hc) (fun c xs hc => by rw [upd_ne (ne hc)]; exact hc)
/-- the context of a suite behind which the error is kept -/
abbrev suiteK (X : Cx) (a : Addr) (pn : List (Addr × Obj)) : Cx := X.suite a pn
/-- what the clause 'except x as n' wishes -/
def wKeep (K : PySem.W.Frag) (c : Value) (i : Nat) (ts : L2.TS) (Wout : WX) (D : Ends) : WX := fun cls d σ H =>
  ∃ b, PySem.W.exmOne K cls c = some b ∧ (b = true → ∃ C, cls = .ref C ∧ ∀ a, H a = none → ts { nx := fun σ' H' => D.nx (σ'.set i none) H', rt := D.rt, bk := fun σ' H' => D.bk (σ'.set i none) H', ct := fun σ' H' => D.ct (σ'.set i none) H' } (σ.set i (some (.ref a))) (upd H a (exn a C d))) ∧
    (b = false → Wout cls d σ H)
theorem ps_try_keep {x n : Str} {c : Value} {i : Nat} {body suite : List Stmt} {b₀ : Stmt} {np pos pos' : Pos} {tb : WX → L2.TS} {ts : L2.TS} {Wout : WX} (hex : X.ex = []) (hs : X.stack = X.env :: X.outer) (hf : X.env.frame = some X.env.locals) (hN : X.N.Nodup) (hi : X.N[i]? = some n) (hln : X.env.kindOf n = some .local) (hc : Names X x c) (tk : Takes X Wout)
    (hb : ∀ (W : WX) (pn : List (Addr × Obj)) (xe : Value → Shared → Prop), Takes (X.tr pn xe) W → PassesOwn (model X.prog X.w) X.A X.env xe → PSs (X.tr pn xe) body (tb W))
    (hsu : ∀ (a : Addr) (pn : List (Addr × Obj)), PSs (X.suite a pn) (b₀ :: suite) ts) :
    PS X (.Try body [.ExceptHandler (some (.Name x np)) (some n) (b₀ :: suite) pos'] [] [] pos) (fun D σ H => tb (wKeep X.K c i ts Wout D) D σ H) := by
  refine ⟨fun pins s σ H D I h => ?_⟩
  have ok := I.ok
  have hfr : X.A.frames = some (X.env :: X.outer) := by rw [ok.frames, hs]
  have hloc : Loc X.env.scope n := .inl hln
  refine wpAny_Try_except ?_
  refine wpAny_mono ((hb (wKeep X.K c i ts Wout D) (X.pn ++ pins) (fun e s₁ => wpAny (model X.prog X.w) X.A (noteFrame e X.env) (fun _ s₂ => wpAny (model X.prog X.w) X.A (setFlight e none) (fun _ s₃ =>
    wpAny (model X.prog X.w) X.A (handleBy e X.env [.ExceptHandler (some (.Name x np)) (some n) (b₀ :: suite) pos']) (SP X pins D) X.xe s₃) X.xe s₂) X.xe s₁) (fun u s' xx => ?_) PassesOwn.looking).run [] s σ H D (I.toTry _) h) (fun f s1 hsp => ?_) (fun e s1 he => he)
  · obtain ⟨a, B, sI, pins', σ', H', cls, d, rfl, J', nb, up, sky, na, os, ag, b, hb1, hyes, hno⟩ := xx
    have J : Inv X pins σ' H' sI := J'.ofTry ok
    have sky' : Sky B (X.env :: X.outer) a (Zc cls d) X.env.locals s'.heap := by rw [← hs]; exact sky
    show wpAny (model X.prog X.w) X.A (noteFrame (.ref a) X.env) _ _ _
    refine Sky.land Zc.steady hfr hf sky' fun h3 fl3 up3 => ?_
    have J3 : Inv X pins σ' H' { s' with heap := h3 } := J.landed nb fl3.1 (up.trans up3) os ag
    obtain ⟨oe3, vs3, he3, hz3, hd3⟩ := fl3.there
    have notFr : ∀ {h : Heap} {o : Obj} {vs : Array Value}, h.FunFrames B (X.env :: X.outer) → h.get? a = some o → o.data = .fields vs → a ∉ frs (X.env :: X.outer) := fun {h o vs} ff e dd hm => by
      obtain ⟨_, o', e', hnf⟩ := ff.mem hm
      rw [e] at e'; cases e'
      exact hnf _ dd
    have nfr := notFr fl3.2.2.1 he3 hd3
    have nL : a ≠ X.env.locals := fun z => nfr (List.mem_filterMap.mpr ⟨X.env, List.mem_cons_self, by rw [hf, z]⟩)
    have nF : a ∉ X.fs := fun hm => by
      obtain ⟨e, he, q⟩ := List.mem_filterMap.mp hm
      exact nfr (List.mem_filterMap.mpr ⟨e, List.mem_cons_of_mem _ he, q⟩)
    -- the error stood not in the state without it
    have noB : B.get? a = none := fl3.2.1
    have noI : sI.heap.get? a = none := by
      cases q : sI.heap.get? a with
      | none => rfl
      | some o =>
        have := nb a o q (by rw [hs]; exact nfr)
        rw [noB] at this; cases this
    have no0 : X.s_0.heap.get? a = none := by
      cases q : X.s_0.heap.get? a with
      | none => rfl
      | some o =>
        obtain ⟨o', q2⟩ := J.base.there a o q (by rw [hex]; exact fun z => nomatch z)
        rw [noI] at q2; cases q2
    have noC : ∀ y c, X.env.cells.lookup y = some c → c ≠ a := fun y c e z => by
      obtain ⟨v, o, q, _⟩ := J.cell y c e
      rw [z, noI] at q; cases q
    have noP : ∀ p ∈ X.pn ++ pins, p.1 ≠ a := fun p hp z => by
      obtain ⟨q, _⟩ := J.pin p hp
      rw [z, noI] at q; cases q
    have S3 := J3.suite he3 hd3 na nL nF
    refine wpAny_handleBy_cons (codeAny_handlers_test ?_) (by intro q; cases q)
    have LT : PySem.W.Looks (model X.prog X.w) h3 (typeOf (.ref a)) cls := fun A Q E s k q => wpAny_typeOf_ref (k _ _ he3) (by rw [hz3.1]; exact q)
    have LM := PySem.W.exm_one (M := model X.prog X.w) (J3.kIn) LT hb1
    have test : ∀ {Q : Value → Shared → Prop} {E : Value → Shared → Prop}, Q c { s' with heap := h3 } → wpAny (model X.prog X.w) (X.A.mark (some (.ref a))) (eval (.Name x np) X.env) Q E { s' with heap := h3 } := fun {Q E} q => by
      obtain ⟨hg, hdbg, hm | ⟨hm, hv, hnn⟩⟩ := hc
      · exact ld_glob (X := X.suite a ((a, oe3) :: (X.pn ++ pins))) S3 hg hm q hdbg
      · exact ld_blt (X := X.suite a ((a, oe3) :: (X.pn ++ pins))) S3 hg hm hv q hnn hdbg
    refine test (LM.here ?_)
    cases b with
    | true =>
      obtain ⟨C, ecls, hyes2⟩ := hyes rfl
      subst ecls
      refine codeAny_handlers_suite_as ?_
      refine HandSPX.lands_againZ fl3 fun h4 fl4 up4 => ?_
      have J4 : Inv X pins σ' H' { s' with heap := h4 } := J.landed nb fl4.1 ((up.trans up3).trans up4) os ag
      obtain ⟨oe4, vs4, he4, hz4, hd4⟩ := fl4.there
      have J5 := track J4 he4 hz4 hd4 na no0 nL noC noP
      have S4 : Inv (X.suite a (X.pn ++ pins)) [] σ' (upd H' a (exn a C d)) { s' with heap := h4 } := ⟨J5.ok.suite _ _, J5.os, J5.bare, J5.base, J5.loc, J5.cell, J5.free, J5.freeC, fun p hp => J5.pin p (by rw [List.append_nil] at hp; exact hp), J5.hok, J5.len⟩
      have un : ∀ {σ6 : L2.St} {H6 : Hp} {s6 : Shared}, Inv (X.suite a (X.pn ++ pins)) [] σ6 H6 s6 → Inv X pins σ6 H6 s6 := fun I6 => ⟨ok, I6.os, I6.bare, I6.base, I6.loc, I6.cell, I6.free, I6.freeC, fun p hp => I6.pin p (List.mem_append_left _ hp), I6.hok, I6.len⟩
      refine store_ok (X := X.suite a (X.pn ++ pins)) (v := .ref a) S4 hN hi hloc rfl (fun s5 S5 => ?_) (.inr hln)
      refine wpAny_mono ((hsu a (X.pn ++ pins)).run [] s5 _ _ _ S5 (hyes2 a na)) (fun f s6 hsp => ?_) (fun _ _ z => False.elim z)
      have end_ : ∀ {σ6 : L2.St} {H6 : Hp} {Q : Shared → Prop}, Inv (X.suite a (X.pn ++ pins)) [] σ6 H6 s6 → (∀ s7, Inv X pins (σ6.set i none) H6 s7 → Q s7) →
          wpAny (model X.prog X.w) X.A (do bindName X.env n .none; unbindBehindTheSuite X.env n pos') (fun _ s7 => Q s7) X.xe s6 := fun {σ6 H6 Q} S6 hq => gone_ok (un S6) hN hi hln hq
      cases f with
      | next =>
        obtain ⟨σ6, H6, S6, q6⟩ := hsp
        exact end_ S6 fun s7 J7 => ⟨_, _, J7, q6⟩
      | brk =>
        obtain ⟨σ6, H6, S6, q6⟩ := hsp
        exact end_ S6 fun s7 J7 => ⟨_, _, J7, q6⟩
      | cont =>
        obtain ⟨σ6, H6, S6, q6⟩ := hsp
        exact end_ S6 fun s7 J7 => ⟨_, _, J7, q6⟩
      | ret u =>
        obtain ⟨v6, σ6, H6, S6, r6, q6⟩ := hsp
        exact end_ S6 fun s7 J7 => ⟨_, _, _, J7, r6, q6⟩
    | false =>
      show wpAny _ X.A (handleBy (.ref a) X.env []) _ _ _
      refine wpAny_handleBy_nil ?_
      obtain ⟨k1, k2, k3, oe, vs, T, oT, ts', he, hz, hd, h1, hr⟩ := id fl3
      unfold PySem.passOn
      refine wpAny_bind (wpAny_field he hd h1 ?_)
      rw [if_neg (show ¬ ((Value.ref T == Value.none) = true) from by simp)]
      have fin : wpAny (model X.prog X.w) X.A (setFlight (.ref a) X.env.frame) (fun _ s4 => wpAny (model X.prog X.w) X.A (throw (.ref a) : Sem Flow) (SP X pins D) X.xe s4) X.xe { s' with heap := h3 } := by
        rw [hf]
        refine HandSPX.setFlight_upZ fl3 fun h4 hh4 up4 => wpAny_throw (tk _ _ ?_)
        exact ⟨a, B, sI, pins, σ', H', cls, d, rfl, J, nb, (up.trans up3).trans up4, .inr (.inr (by rw [hs]; exact hh4)), na, os, ag, hno rfl⟩
      first
        | exact wpAny_bind (wpAny_pure (wpAny_bind fin))
        | exact wpAny_bind fin
  · cases f with
    | next =>
      obtain ⟨σ', H', J', q⟩ := hsp
      exact wpAny_execs_nil ⟨σ', H', J'.ofTry ok, q⟩
    | brk =>
      obtain ⟨σ', H', J', q⟩ := hsp
      exact ⟨σ', H', J'.ofTry ok, q⟩
    | cont =>
      obtain ⟨σ', H', J', q⟩ := hsp
      exact ⟨σ', H', J'.ofTry ok, q⟩
    | ret u =>
      obtain ⟨v, σ', H', J', r, q⟩ := hsp
      exact ⟨v, σ', H', J'.ofTry ok, r, q⟩
/-! #### try: body, except x as n: suite, mirrored -/
def okFl : Fl → Bool
  | .rt s => retS s
  | _ => true
/-- mt: does the clause take an error of this class -/
def sTry (i : Nat) (mt : Str → Option Bool) (body suite : M Fl) : M Fl := fun τ => match body τ with
  | .exc c fs τ1 => (match mt c with
    | some true => (match suite (τ1.set i (.val (.exc c fs))) with
      | .ok (f, τ2) => if okFl f = true then .ok (f, τ2.set i .non) else .stuck
      | _ => .stuck)
    | some false => .exc c fs τ1
    | none => .stuck)
  | r => r
/-- what the written part says of the clause's class -/
def Catches (K : PySem.W.Frag) (G : Gx) (c : Value) (mt : Str → Option Bool) : Prop := ∀ x C b, mt x = some b → G.cls x = some C → PySem.W.exmOne K (.ref C) c = some b
theorem Rl.unset (r : Rl F Φ H σ τ tm) (qt : Quiet tm) (i : Nat) : Rl F Φ H (σ.set i none) (τ.set i .non) tm := by
  have h := r.wiped qt [i]
  have e1 : wipe σ [i] = σ.set i none := rfl
  have e2 : wipeT [i] τ = τ.set i .non := rfl
  rw [e1, e2] at h
  exact h
theorem sm_try (i : Nat) {x n : Str} {c : Value} {b₀ : Stmt} {body suite : List Stmt} {np pos pos' : Pos} {mb ms : M Fl} {mt : Str → Option Bool} (ft : Fits X F W) (hex : X.ex = []) (hs : X.stack = X.env :: X.outer) (hf : X.env.frame = some X.env.locals) (hc : Names X x c) (ct : Catches X.K F.G c mt)
    (hb : ∀ (W : WX) (pn : List (Addr × Obj)) (xe : Value → Shared → Prop), Fits (X.tr pn xe) F W → BlM (X.tr pn xe) F W body mb)
    (hsu : ∀ (a : Addr) (pn : List (Addr × Obj)), BlM (X.suite a pn) F W0 (b₀ :: suite) ms) (hi : X.N[i]? = some n := by rfl) (hln : X.env.kindOf n = some .local := by rfl) :
    SM X F W (.Try body [.ExceptHandler (some (.Name x np)) (some n) (b₀ :: suite) pos'] [] [] pos) (sTry i mt mb ms) := by
  refine PS.imp (ps_try_keep hex hs hf ft.nd hi hln hc ft.tk (fun W pn xe tk po => hb W pn xe ⟨ft.calm, ft.nd, ft.K, tk, po⟩) hsu) fun D σ H ⟨Φ, τ, tm, qt, r, h⟩ => ?_
  refine ⟨Φ, τ, tm, qt, r, ?_⟩
  unfold sTry at h
  cases e : mb τ with
  | ok p => rw [e] at h; exact h
  | stuck => rw [e] at h; exact h
  | exc cn fs τ1 =>
    rw [e] at h
    simp only at h
    intro cls d σ1 H1 Φ1 r1 xr
    obtain ⟨C, gc, rfl, xf⟩ := xr
    cases q : mt cn with
    | none => rw [q] at h; exact h.elim
    | some b =>
      rw [q] at h
      refine ⟨b, ct cn C b q gc, fun hb => ⟨C, rfl, fun a ha => ?_⟩, fun hb => ?_⟩
      · subst hb
        simp only at h
        have r2 := r1.within (o := exn a C d) ha
        have fz : Fz F.G (upd Φ1 a (exn a C d)) (.ref a) (.exc cn fs) := by
          rcases xf with ⟨rfl, rfl⟩ | ⟨dd, vs, rfl, e1, e2⟩
          · exact .exc0 upd_same gc
          · have l := le_upd (o := exn a C (some dd)) (r1.fre ha)
            exact .exc1 upd_same gc (l _ _ e1) (FzF.le l e2)
        have r3 := (r2.val fz).store (by trivial) qt i
        refine ⟨_, _, tm, qt, r3, ?_⟩
        refine (show Wp F W0 tm (ms (τ1.set i (.val (.exc cn fs)))) _ from ?_)
        cases e2 : ms (τ1.set i (.val (.exc cn fs))) with
        | stuck => simp only [e2] at h; exact h
        | exc c2 fs2 τ2 => simp only [e2] at h; exact h.elim
        | ok p =>
          obtain ⟨f, τ2⟩ := p
          simp only [e2] at h
          cases f with
          | nx => exact fun σ' H' Φ' r' => h _ _ _ (r'.unset qt i)
          | bk => exact fun σ' H' Φ' r' => h _ _ _ (r'.unset qt i)
          | ct => exact fun σ' H' Φ' r' => h _ _ _ (r'.unset qt i)
          | rt s =>
            cases q : retS s with
            | false => simp only [okFl, q, Bool.false_eq_true, if_false] at h; exact h.elim
            | true =>
              simp only [okFl, q, if_true] at h
              refine fun v σ' H' Φ' r' => h v (σ'.set i none) H' Φ' (r'.unset (fun p hp => ?_) i)
              rcases List.mem_cons.mp hp with z | z
              · rw [z]
                cases s <;> first | trivial | cases q
              · exact qt p z
      · subst hb
        exact h (.ref C) d σ1 H1 Φ1 r1 ⟨C, gc, rfl, xf⟩
end
end Mi

/-! ### M12: isinstance, attributes -/
namespace Mi
open PySem PySem.Spec PyProof.Rows L2

/-- what the written part says of the class of instances, of errors -/
structure InsI (K : PySem.W.Frag) (C : Addr) : Prop where
  cl : Cls K C
  ha : PySem.W.findIn K (.ref C) "__class__" = some (some (.builtin "object.__class__"))
  hn : PySem.W.specialIn K (.builtin "object.__class__") "__get__" = some (some (.builtin "getset_descriptor.__get__"))
  htk : PySem.W.takesIn K (.builtin "object.__class__") = some true
  hm : PySem.W.mroIn K C (.type "object") = some true
structure ExcI (K : PySem.W.Frag) (C : Addr) : Prop where
  hcl : (PySem.W.clsIn K C).isSome = true
  hga : PySem.W.findIn K (.ref C) "__getattribute__" = some (some (.builtin "BaseException.__getattribute__"))
  hgt : PySem.W.findIn K (.ref C) "__getattr__" = some none
  hsub : PySem.W.subIn K (.ref C) (.type "BaseException") = some true
  ha : PySem.W.findIn K (.ref C) "__class__" = some (some (.builtin "object.__class__"))
  hn : PySem.W.specialIn K (.builtin "object.__class__") "__get__" = some (some (.builtin "getset_descriptor.__get__"))
  htk : PySem.W.takesIn K (.builtin "object.__class__") = some true
  hm : PySem.W.mroIn K C (.type "object") = some true
  hd : PySem.W.hasDictIn K C = true
inductive TyE (K : PySem.W.Frag) (H : Hp) : V → Value → Prop where
  | base {x : V} {t : Value} (h : TyX K H x t) : TyE K H x t
  | exc0 {a C : Addr} (h : H a = some (exn a C none)) (e : ExcI K C) : TyE K H (.ref a) (.ref C)
  | exc1 {a C dd : Addr} {fs : List (Str × V)} (h : H a = some (exn a C (some dd))) (k : H dd = some (.xd fs)) (e : ExcI K C) : TyE K H (.ref a) (.ref C)
section
variable {X : Cx} {pins : List (Addr × Obj)} {σ : L2.St} {H : Hp} {s : Shared}
theorem exn_at {P : Program} {w : World} {h : Heap} {a C : Addr} {d : Option Addr} (hok : HOk P w H h) (e : H a = some (exn a C d)) : ∃ (oe : Obj) (vs : Array Value), h.get? a = some oe ∧ oe.cls = .ref C ∧ oe.dict = d ∧ oe.data = .fields vs := (hok a _ e).1
theorem exn_inst0 {P : Program} {w : World} {h : Heap} {a C : Addr} (hok : HOk P w H h) (e : H a = some (exn a C none)) : ∃ oe, PySem.W.InstAt h a oe C none := by
  obtain ⟨oe, vs, h1, h2, h3, h4⟩ := exn_at hok e
  exact ⟨oe, h1, h2, by unfold PySem.W.notCls; rw [h4] <;> rfl, by rw [h3]; trivial⟩
theorem exn_inst1 {P : Program} {w : World} {h : Heap} {a C dd : Addr} {fs : List (Str × V)} (hok : HOk P w H h) (e : H a = some (exn a C (some dd))) (k : H dd = some (.xd fs)) : ∃ (oe od : Obj) (mA : Str → Option Value), PySem.W.InstAt h a oe C (some od) ∧ (∀ name, PySem.W.lookIn name od = some (mA name)) ∧ ∀ f, RelO (fs.lookup f) (mA f) := by
  obtain ⟨oe, vs, h1, h2, h3, h4⟩ := exn_at hok e
  obtain ⟨mA, hns, hr⟩ := hok dd _ k
  obtain ⟨od, ho, hl⟩ := lookIn_ns hns
  exact ⟨oe, od, mA, ⟨h1, h2, by unfold PySem.W.notCls; rw [h4] <;> rfl, by rw [h3]; exact ho⟩, hl, hr⟩
theorem kit_ofE {x : V} {u t : Value} (I : Inv X pins σ H s) (rx : RelV x u) (ty : TyE X.K H x t) : ∃ P : Heap → Prop, PySem.W.KitX X.K u t P ∧ P s.heap ∧ u ≠ .builtin "__main__.__loader__#opaque" := by
  cases ty with
  | base h => exact kit_of I rx h
  | @exc0 a C h e =>
    cases (show u = Value.ref a from rx)
    obtain ⟨oe, J⟩ := exn_inst0 I.hok h
    exact ⟨_, PySem.W.kitx_exc e.hcl e.hga e.hgt e.hsub e.ha e.hn e.htk e.hm, J, fun z => nomatch z⟩
  | @exc1 a C dd fs h k e =>
    cases (show u = Value.ref a from rx)
    obtain ⟨oe, od, _, J, _⟩ := exn_inst1 I.hok h k
    exact ⟨_, PySem.W.kitx_exc e.hcl e.hga e.hgt e.hsub e.ha e.hn e.htk e.hm, J, fun z => nomatch z⟩
def rIsE (K : PySem.W.Frag) : List V → Hp → VK → Prop := fun xs H Q => ∃ (x : V) (t : Value) (b : Bool), TyE K H x t ∧
  ((∃ c u, xs = [x, c] ∧ ClsV c u ∧ PySem.W.kitOne K t u = some b) ∨ (∃ tp cs us, xs = [x, .ref tp] ∧ SqT K H tp cs ∧ Paired ClsV cs us ∧ PySem.W.kitAny K t us = some b)) ∧ Q (.bl b) H
theorem call_isE : CallR X (.builtin "isinstance") (rIsE X.K) := by
  intro pins s σ H xs us Q I r h
  obtain ⟨x, t, b, ty, h, q⟩ := h
  rcases h with ⟨c, u, rfl, k, e⟩ | ⟨tp, cs, ws, rfl, hT, k, e⟩
  · obtain ⟨u1, u2, rfl, r1, r2⟩ := vals2 r
    have e2 := k.eq r2
    subst e2
    obtain ⟨P, Z, p, hx⟩ := kit_ofE I r1 ty
    exact PySem.W.kia_one Z I.kIn p e hx fun tk => ⟨.bl b, H, I.tok tk, rfl, q⟩
  · obtain ⟨u1, u2, rfl, r1, r2⟩ := vals2 r
    cases (show u2 = Value.ref tp from r2)
    obtain ⟨P, Z, p, hx⟩ := kit_ofE I r1 ty
    obtain ⟨its, rv, ⟨o, h1, h2, n, h3⟩, _⟩ := I.tuple hT
    have e3 := ClsV.all k rv
    subst e3
    obtain ⟨oc, od, dt, sl⟩ := o
    simp only at h2 h3
    subst h2 h3
    exact PySem.W.kia_tup Z I.kIn p h1 e hx fun tk => ⟨.bl b, H, I.tok tk, rfl, q⟩
end
/-- the kinds of values that isinstance tells apart -/
inductive Tg where
  | bt (n : String) | ins (c : Str) | exc (c : Str)
inductive Cl where
  | bt (n : String) | own (c : Str)
def tagOf : D → Option Tg
  | .non => some (.bt "NoneType")
  | .bl _ => some (.bt "bool")
  | .int _ => some (.bt "int")
  | .str _ => some (.bt "str")
  | .lst _ => some (.bt "list")
  | .tup _ => some (.bt "tuple")
  | .dic _ => some (.bt "dict")
  | .ins c _ => some (.ins c)
  | .exc c _ => some (.exc c)
  | _ => none
def clOf : D → Option Cl
  | .ty n => some (.bt n)
  | .cls c => some (.own c)
  | _ => none
def clsOf : List D → Option (List Cl)
  | [] => some []
  | d :: ds => match clOf d, clsOf ds with
    | some c, some cs => some (c :: cs)
    | _, _ => none
abbrev IsT := Tg → Cl → Option Bool
def isAny (tb : IsT) (t : Tg) : List Cl → Option Bool
  | [] => some false
  | c :: cs => match tb t c with
    | some true => some true
    | some false => isAny tb t cs
    | none => none
def fIsi (tb : IsT) : List D → Option S
  | [x, .tup cs] => match tagOf x, clsOf cs with
    | some t, some (c :: l) => (isAny tb t (c :: l)).map fun b => .val (.bl b)
    | _, _ => none
  | [x, c] => match tagOf x, clOf c with
    | some t, some u => (tb t u).map fun b => .val (.bl b)
    | _, _ => none
  | _ => none
inductive TgV (G : Gx) (K : PySem.W.Frag) : Tg → Value → Prop where
  | bt (n : String) : TgV G K (.bt n) (.type n)
  | ins {c : Str} {C : Addr} (h : G.cls c = some C) : TgV G K (.ins c) (.ref C)
  | exc {c : Str} {C : Addr} (h : G.cls c = some C) : TgV G K (.exc c) (.ref C)
inductive ClV (G : Gx) : Cl → Value → Prop where
  | bt (n : String) : ClV G (.bt n) (.type n)
  | own {c : Str} {C : Addr} (h : G.cls c = some C) : ClV G (.own c) (.ref C)
/-- the table is right -/
structure IsOk (K : PySem.W.Frag) (G : Gx) (tb : IsT) : Prop where
  ok : ∀ t u b vt vu, tb t u = some b → TgV G K t vt → ClV G u vu → PySem.W.kitOne K vt vu = some b
  ins : ∀ c u b C, tb (.ins c) u = some b → G.cls c = some C → InsI K C
  exc : ∀ c u b C, tb (.exc c) u = some b → G.cls c = some C → ExcI K C
section
variable {X : Cx} {F : Fm} {W : WX} {Φ Φ' H H' : Hp} {σ : L2.St} {τ τ' : List S} {tm : Env1} {tb : IsT}
theorem cl_v {v : V} {d : D} {c : Cl} (h : Rdv F Φ H v d) (e : clOf d = some c) : ∃ u, ClsV v u ∧ ClV F.G c u := by
  rcases h with h | ⟨a, o, _, e2, _⟩
  · cases h <;> first | (cases e; done) | skip
    · cases e; exact ⟨_, .ty _, .bt _⟩
    · rename_i g
      cases e; exact ⟨_, .own _, .own g⟩
  · subst e2
    cases o <;> cases e
theorem ty_v {v : V} {d : D} {t : Tg} (ok : IsOk X.K F.G tb) (hK : X.K = F.G.K) (l : Le Φ H) (h : Rdv F Φ H v d) (e : tagOf d = some t) (some_ : ∃ u b, tb t u = some b) : ∃ w, TyE X.K H v w ∧ TgV F.G X.K t w := by
  obtain ⟨u, b, ht⟩ := some_
  rcases h with h | ⟨a, o, e1, e2, q⟩
  · cases h with
    | non => cases e; exact ⟨_, .base (.base .non), .bt _⟩
    | bl b => cases e; exact ⟨_, .base (.base (.bl b)), .bt _⟩
    | int i => cases e; exact ⟨_, .base (.base (.int i)), .bt _⟩
    | str x => cases e; exact ⟨_, .base (.base (.str x)), .bt _⟩
    | ty n => cases e
    | lst h t => cases e; exact ⟨_, .base (.base (.lst (l _ _ h))), .bt _⟩
    | scr h t => cases e
    | tup h t =>
      cases e
      rcases SqT.le h l with (h | ⟨o, h⟩) | ⟨o, its, n, h, hc, _⟩
      · exact ⟨_, .base (.base (.tup h)), .bt _⟩
      · exact ⟨_, .base (.fTuple h), .bt _⟩
      · rw [← hK] at h
        exact ⟨_, .base (.kTuple h hc), .bt _⟩
    | dic h t => cases e; exact ⟨_, .base (.base (.dK (l _ _ h))), .bt _⟩
    | ins h g t =>
      cases e
      have f := ok.ins _ _ _ _ ht g
      exact ⟨_, .base (.base (.ins (l _ _ h) f.cl f.ha f.hn f.htk f.hm)), .ins g⟩
    | exc0 h g =>
      cases e
      exact ⟨_, .exc0 (l _ _ h) (ok.exc _ _ _ _ ht g), .exc g⟩
    | exc1 h g k t =>
      cases e
      exact ⟨_, .exc1 (l _ _ h) (l _ _ k) (ok.exc _ _ _ _ ht g), .exc g⟩
    | cls g => cases e
    | fn g => cases e
  · subst e1 e2
    cases o with
    | lst xs =>
      cases e
      obtain ⟨vs, q1, _⟩ := q
      exact ⟨_, .base (.base (.lst q1)), .bt _⟩
    | ins c fs =>
      cases e
      obtain ⟨C, dx, vs, q1, g, _⟩ := q
      have f := ok.ins _ _ _ _ ht g
      exact ⟨_, .base (.base (.ins q1 f.cl f.ha f.hn f.htk f.hm)), .ins g⟩
theorem cls_v {G : Gx} {Φ H : Hp} (hF : F.G = G) : ∀ {vs : List V} {ds : List D} {l : List Cl}, FzL G Φ vs ds → clsOf ds = some l → ∃ us, Paired ClsV vs us ∧ Paired (ClV G) l us
  | _, [], _, .nil, e => by cases e; exact ⟨[], .nil, .nil⟩
  | _, d :: ds, _, .cons h t, e => by
    unfold clsOf at e
    split at e
    · rename_i c cs e1 e2
      cases e
      subst hF
      obtain ⟨u, q1, q2⟩ := cl_v (H := Φ) (.inl h) e1
      obtain ⟨us, q3, q4⟩ := cls_v rfl t e2 (H := Φ)
      exact ⟨u :: us, .cons q1 q3, .cons q2 q4⟩
    · cases e
theorem any_v (ok : IsOk X.K F.G tb) {t : Tg} {w : Value} (tv : TgV F.G X.K t w) : ∀ {l : List Cl} {us : List Value} {b : Bool}, Paired (ClV F.G) l us → isAny tb t l = some b → PySem.W.kitAny X.K w us = some b
  | [], _, _, .nil, e => by cases e; rfl
  | c :: cs, _, b, .cons h r, e => by
    unfold isAny at e
    unfold PySem.W.kitAny
    cases q : tb t c with
    | none => rw [q] at e; cases e
    | some k =>
      rw [q] at e
      rw [ok.ok _ _ _ _ _ q tv h]
      cases k with
      | true => exact e
      | false => exact any_v ok tv r e
theorem c_isi (ok : IsOk X.K F.G tb) (hK : X.K = F.G.K) : CaS F (fIsi tb) (rIsE X.K) := by
  intro Φ H σ τ tm vs ds s Q rl hd hf k
  unfold fIsi at hf
  split at hf
  · rename_i x cs
    split at hf
    · rename_i t c l e1 e2
      obtain ⟨b, e3, rfl⟩ := Option.map_eq_some_iff.mp hf
      obtain ⟨v, w, rfl, h1, h2⟩ := rd2 hd
      obtain ⟨a, ws, rfl, e5, q⟩ := h2.tup rl.le
      have so : ∃ u b, tb t u = some b := by
        unfold isAny at e3
        cases q : tb t c with
        | none => rw [q] at e3; cases e3
        | some k => exact ⟨c, k, q⟩
      obtain ⟨tv, q1, q2⟩ := ty_v ok hK rl.le h1 e1 so
      obtain ⟨us, q3, q4⟩ := cls_v (F := F) rfl q e2 (H := H)
      exact ⟨v, tv, b, q1, .inr ⟨a, ws, us, rfl, by rw [hK]; exact e5, q3, any_v ok q2 q4 e3⟩, k _ _ _ (rl.val (.bl b))⟩
    · cases hf
  · rename_i x c hc
    split at hf
    · rename_i t u e1 e2
      obtain ⟨b, e3, rfl⟩ := Option.map_eq_some_iff.mp hf
      obtain ⟨v, w, rfl, h1, h2⟩ := rd2 hd
      obtain ⟨tv, q1, q2⟩ := ty_v ok hK rl.le h1 e1 ⟨_, _, e3⟩
      obtain ⟨cu, q3, q4⟩ := cl_v h2 e2
      exact ⟨v, tv, b, q1, .inl ⟨w, cu, rfl, q3, ok.ok _ _ _ _ _ e3 q2 q4⟩, k _ _ _ (rl.val (.bl b))⟩
    · cases hf
  · cases hf
/-! #### attributes -/
/-- the field f of instances of some classes and of errors of some -/
def fldD (f : Str) (is es : List Str) : D → Option S
  | .ins c fs => if is.contains c = true then (fs.lookup f).map .val else none
  | .exc c fs => if es.contains c = true then (fs.lookup f).map .val else none
  | _ => none
structure FldOk (K : PySem.W.Frag) (G : Gx) (f : Str) (is es : List Str) : Prop where
  ins : ∀ c ∈ is, ∀ C, G.cls c = some C → Cls K C ∧ NoAttr K C f
  exc : ∀ c ∈ es, ∀ C, G.cls c = some C → ExcI K C ∧ PySem.W.findIn K (.ref C) f = some none
def tFldE (K : PySem.W.Frag) (te : L2.TE) (f : Str) : L2.TE := fun σ H Q => te σ H fun x H1 => (∃ a C dx fs v, x = .ref a ∧ H1 a = some (.ins C dx fs) ∧ Cls K C ∧ NoAttr K C f ∧ fs.lookup f = some v ∧ Q v H1) ∨
  ∃ (a C dd : Addr) (fs : List (Str × V)) (v : V), x = .ref a ∧ H1 a = some (exn a C (some dd)) ∧ H1 dd = some (.xd fs) ∧ ExcI K C ∧ PySem.W.findIn K (.ref C) f = some none ∧ fs.lookup f = some v ∧ Q v H1
theorem pe_fldE {e : Expr} {f : Str} {te : L2.TE} {pos : Pos} (he : PE X e te) (hb : attributeBase e f X.env (eval e X.env) = eval e X.env := by rfl) : PE X (.Attribute e f pos) (tFldE X.K te f) := by
  refine ⟨fun pins s σ H Q I h => ?_⟩
  refine attr_of hb (thn (he.run pins s σ H _ I h) fun u s1 hh => ?_)
  obtain ⟨x, H1, I1, rx, q⟩ := hh
  rcases q with ⟨a, C, dx, fs, v, rfl, e1, c, n, l, q⟩ | ⟨a, C, dd, fs, v, rfl, e1, e2, xc, no, l, q⟩
  · obtain rfl : u = Value.ref a := rx
    exact getattr_ok I1 e1 c n l fun u' s' I' ru => ⟨v, H1, I', ru, q⟩
  · obtain rfl : u = Value.ref a := rx
    obtain ⟨oe, od, mA, J, hl, hr⟩ := exn_inst1 I1.hok e1 e2
    obtain ⟨u', hu, ru⟩ := RelO.some_of (v := v) (o := mA f) (by rw [← l]; exact hr f)
    exact PySem.HandSPX.exc_get I1.kIn J xc.hga xc.hgt xc.hsub (PySem.W.findObj_own xc.hd no rfl (by rw [hl, hu])) (handed_of ru) ⟨v, H1, I1.tok _, ru, q⟩
theorem em_fld {e : Expr} {f : Str} {ma : M S} {is es : List Str} {pos : Pos} (fo : FldOk X.K F.G f is es) (he : EM X F W e ma) (hb : attributeBase e f X.env (eval e X.env) = eval e X.env := by rfl) : EM X F W (.Attribute e f pos) (eUn (fldD f is es) ma) := PE.imp (pe_fldE he hb) fun σ H Q ⟨Φ, τ, tm, r, h⟩ => te_go r (Wp.bnd h) fun s τ1 v H1 Φ1 p1 r1 => by
  obtain ⟨d, e1, p2⟩ := Wp.peek (Wp.bnd p1)
  obtain ⟨s', e2, k⟩ := Wp.of p2
  have rd := r1.peek r1.hd e1
  unfold fldD at e2
  split at e2
  · split at e2
    · rename_i c fs hc
      obtain ⟨y, e3, rfl⟩ := Option.map_eq_some_iff.mp e2
      obtain ⟨a, C, dx, ws, rfl, e4, g, q⟩ := rd.ins r1.le
      obtain ⟨z, e5, q2⟩ := FzF.look q e3
      obtain ⟨c1, c2⟩ := fo.ins c (by simpa using hc) C g
      exact .inl ⟨a, C, dx, ws, z, rfl, e4, c1, c2, e5, k _ _ _ (r1.tl.val q2)⟩
    · cases e2
  · split at e2
    · rename_i c fs hc
      obtain ⟨y, e3, rfl⟩ := Option.map_eq_some_iff.mp e2
      rcases rd with rd | ⟨a, o, _, e4, _⟩
      · cases rd with
        | exc0 h g => cases e3
        | exc1 h g k' t =>
          obtain ⟨z, e5, q2⟩ := FzF.look t e3
          obtain ⟨c1, c2⟩ := fo.exc c (by simpa using hc) _ g
          exact .inr ⟨_, _, _, _, z, rfl, r1.le _ _ h, r1.le _ _ k', c1, c2, e5, k _ _ _ (r1.tl.val q2)⟩
      · cases o <;> cases e4
    · cases e2
  · cases e2
end
end Mi

/-! ### M13: names of the module as values, defs in slots called, powers, {} , keywords -/
namespace Mi
open PySem PySem.Spec PyProof.Rows L2

/-- the module's names and the world's defs and classes are the same -/
structure GlobOk (mg : Str → Option Value) (G : Gx) : Prop where
  fn : ∀ x a, G.fn x = some a ↔ mg x = some (.ref a)
  cls : ∀ x a, G.cls x = some a ↔ mg x = some (.ref a)
section
variable {X : Cx} {F : Fm} {W : WX} {Φ Φ' H H' : Hp} {σ : L2.St} {τ τ' : List S} {tm : Env1} {x : Str} {pos p : Pos}
theorem em_gfn (go : GlobOk X.mg F.G) {f : Addr} (hm : X.mg x = some (.ref f)) (hg : Gl X x := by rfl) (hd : (x == ("__debug__" : Str)) = false := by decide) : EM X F W (.Name x pos) (eLit (.fn x)) :=
  PE.imp (pe_glob (v := .ref f) hg hm rfl hd) fun σ H Q ⟨Φ, τ, tm, r, h⟩ => h _ _ _ (r.val (.fn ((go.fn _ _).mpr hm)))
theorem em_gcls (go : GlobOk X.mg F.G) {f : Addr} (hm : X.mg x = some (.ref f)) (hg : Gl X x := by rfl) (hd : (x == ("__debug__" : Str)) = false := by decide) : EM X F W (.Name x pos) (eLit (.cls x)) :=
  PE.imp (pe_glob (v := .ref f) hg hm rfl hd) fun σ H Q ⟨Φ, τ, tm, r, h⟩ => h _ _ _ (r.val (.cls ((go.cls _ _).mpr hm)))
theorem em_gty {T : String} (hm : X.mg x = none) (hv : bootBuiltins x = some (.type T) := by decide +kernel) (hg : Gl X x := by rfl) (hn : x ≠ "__name__" := by decide) (hd : (x == ("__debug__" : Str)) = false := by decide) : EM X F W (.Name x pos) (eLit (.ty T)) :=
  PE.imp (pe_bltn (v := .ty T) hg hm hv rfl hn hd) fun σ H Q ⟨Φ, τ, tm, r, h⟩ => h _ _ _ (r.val (.ty T))

/-! #### powers -/
def powFits (i j : Int) : Bool := decide (0 ≤ j) && decide ((Builtin.Int.intBits i : Int) * j ≤ 2 ^ 27)
def fPow : D → D → Option S
  | .int i, .int j => if powFits i j = true then sInt (i ^ j.toNat) else none
  | _, _ => none
def CPowW (i j : Int) : Prop := 0 ≤ j ∧ (Builtin.Int.intBits i : Int) * j ≤ 2 ^ 27
theorem op_powW : OpR X (binaryOp .Pow) (rI CPowW fun i j => .int (i ^ j.toNat)) := opI fun _ _ _ _ _ _ _ hc q => pow_int hc.1 hc.2 q
theorem o_pow : OpS F fPow (rI CPowW fun i j => .int (i ^ j.toNat)) := o_int fun d e s h => by
  unfold fPow at h
  split at h
  · split at h
    · rename_i hz
      obtain ⟨h1, h2⟩ := Bool.and_eq_true_iff.mp hz
      cases h; exact ⟨_, _, rfl, rfl, ⟨of_decide_eq_true h1, of_decide_eq_true h2⟩, rfl⟩
    · cases h
  · cases h

/-! #### {} -/
theorem em_dic : EM X F W (.Dict [] [] pos) (eLit (.dic [])) := PE.imp pe_dnewK fun σ H Q ⟨Φ, τ, tm, r, h⟩ a ha => by
  have r2 := r.within (o := .dK []) ha
  exact h _ _ _ (r2.val (.dic upd_same .nil))

/-! #### a def that stands in a slot, called -/
variable {k i : Nat} {a : Expr} {es : List Expr} {ms : M (List S)}
theorem pe_slotfn {t : L2.TA} (hr : Room k X.A) (tk : Takes X W) (hN : X.N[i]? = some x) (hv : Vis X.env.scope x) (ha : PA X (a :: es) t) (hd : (x == ("__debug__" : Str)) = false := by decide) (hcd : (x == ("__classdict__" : Str)) = false := by decide)
    (he : starEach (a :: es) X.env = (false, eval a X.env) :: starEach es X.env := by rfl) (hpl : (backTo pos (starEach es X.env)).any (·.1) = false := by rfl) :
    PE X (.Call (.Name x p) (a :: es) [] pos) (fun σ H Q => ∃ f fd ps sp, FnOk X.prog X.w X.K X.mg X.base (L2.CX X.prog X.w) k f fd ps sp ∧ PySem.W.keepIn X.K (.ref f) = true ∧ Binds X.K fd ps [] ∧ σ[i]? = some (some (.ref f)) ∧ t σ H fun vs H1 => sp vs H1 Q (WE W σ)) := by
  refine ⟨fun pins s σ H Q I ⟨f, fd, ps, sp, Ok, kp, b, hs, ht⟩ => ?_⟩
  refine wpAny_Call_Name_kw (thn ((pe_var (pos := p) hN hv hd hcd).run pins s σ H (fun v H1 => v = .ref f ∧ H1 = H) I ⟨.ref f, hs, rfl, rfl⟩) fun u s1 ⟨v, H1, I1, r1, q1⟩ => ?_)
  obtain ⟨ev, eH⟩ := q1
  subst ev eH
  cases r1
  refine PySem.W.callWith_K (h₀ := X.base) I.ok.mod.kin kp (thn (ha.run pos pins s1 σ _ _ I1 ht) fun us s2 ⟨vs, H2, I2, r, q⟩ => ⟨I2.kIn, ?_⟩) he hpl
  exact run_fnSD (E := WE W) Ok hr b .nil (passAt tk σ) I2 r (by rw [List.append_nil]; exact q)
def eCallF (i : Nat) (tab : Str → Option Fn) (ms : M (List S)) : M S := fun τ => match τ[i]? with
  | some (.val (.fn g)) => (match tab g with
    | some mf => eCallV mf ms τ
    | none => .stuck)
  | _ => .stuck
theorem em_callF {n : Nat} {tab : Str → Option Fn} (ft : Fits X F W) (go : GlobOk X.mg F.G) (hr : Room k X.A) (df : ∀ g mf, tab g = some mf → DefOk X.prog X.w X.K X.mg X.base F.G k g n mf) (i : Nat) (ha : LM X F W (a :: es) ms) (hN : X.N[i]? = some x := by rfl) (hv : Vis X.env.scope x := by first | exact Or.inl rfl | exact Or.inr (Or.inl rfl) | exact Or.inr (Or.inr rfl)) (hd : (x == ("__debug__" : Str)) = false := by decide) (hcd : (x == ("__classdict__" : Str)) = false := by decide)
    (he : starEach (a :: es) X.env = (false, eval a X.env) :: starEach es X.env := by rfl) (hpl : (backTo pos (starEach es X.env)).any (·.1) = false := by rfl) :
    EM X F W (.Call (.Name x p) (a :: es) [] pos) (eCallF i tab ms) := by
  refine PE.imp (pe_slotfn (i := i) hr ft.tk hN hv ha hd hcd he hpl) fun σ H Q h => ?_
  obtain ⟨Φ, τ, tm, r, h⟩ := h
  unfold eCallF at h
  cases e : τ[i]? with
  | none => rw [e] at h; exact h.elim
  | some s =>
    cases s with
    | val d =>
      cases d with
      | fn g =>
        simp only [e] at h
        cases q : tab g with
        | none => rw [q] at h; exact h.elim
        | some mf =>
          rw [q] at h
          simp only at h
          have dg := df g mf q
          obtain ⟨f, fd, ps, Ok, gm, kp, b⟩ := dg.ex
          obtain ⟨v, e1, _, x, e2, fz⟩ := r.at e
          subst e2
          cases fz with
          | fn hf =>
            have := (go.fn _ _).mp hf
            rw [gm] at this
            cases this
            exact ⟨_, fd, ps, _, Ok, kp, b, e1, t_callV dg.pr (fun ds z => by simpa using dg.ar _ z) ⟨Φ, τ, tm, r, h⟩⟩
      | _ => simp only [e] at h; exact h.elim
    | _ => simp only [e] at h; exact h.elim

/-! #### keywords -/
abbrev KM (X : Cx) (F : Fm) (W : WX) (kws : List Keyword) (m : M (List S)) : Prop := PK X kws (TLm F W m)
theorem PK.imp {X : Cx} {e : List Keyword} {t t' : L2.TA} (h : PK X e t) (i : ∀ σ H Q, t' σ H Q → t σ H Q) : PK X e t' := ⟨fun pos pins s σ H Q I q => h.run pos pins s σ H Q I (i _ _ _ q)⟩
theorem km_nil : KM X F W [] lNil := PK.imp pk_nil fun σ H Q ⟨Φ, τ, tm, rl, h⟩ => h [] H Φ rfl rl
theorem km_cons {nm : Option Str} {kpos : Pos} {kws : List Keyword} {ma : M S} (ha : EM X F W a ma) (hr : KM X F W kws ms) : KM X F W (⟨nm, a, kpos⟩ :: kws) (lCons ma ms) :=
  PK.imp (pk_cons ha hr) fun σ H Q ⟨Φ, τ, tm, rl, h⟩ => te_go rl h.bnd fun s τ1 v H1 Φ1 p1 r1 => tl_go r1 p1.bnd fun ss τ2 vs H2 Φ2 p2 l r2 => p2 (v :: vs) H2 Φ2 (by simp [l]) (r2.air (.perm (by
    show ((vs.map some).zip ss ++ ((some v, s) :: tm)).Perm ((some v, s) :: ((vs.map some).zip ss ++ tm))
    exact List.perm_middle)))
/-- the values in the parameters' order -/
def pick {α : Type} (z : α) (ix : List Nat) (l : List α) : List α := ix.map fun i => l.getD i z
structure KwOk (P : Program) (w : World) (K : PySem.W.Frag) (mg : Str → Option Value) (base : Heap) (G : Gx) (k : Nat) (x : Str) (n : Nat) (ks : List Str) (ix : List Nat) (mf : Fn) : Prop where
  ex : ∃ f fd ps, FnOk P w K mg base (L2.CX P w) k f fd ps (spM G n mf) ∧ mg x = some (.ref f) ∧ PySem.W.keepIn K (.ref f) = true ∧ ∀ (s : Shared) (ws : List Value), ws.length = ks.length → BindsTo s fd ⟨[], ks.zip ws⟩ (ps.zip (pick .none ix ws))
  pr : Proper mf
  ar : ∀ ss, mf ss ≠ .stuck → ss.length = n
  len : ix.length = n
def eCallK (ix : List Nat) (nk : Nat) (mf : Fn) (ms : M (List S)) : M S := M.bnd ms fun ss => M.bnd (takeAll ss) fun ds => fun τ => if ds.length = nk then (match mf ((pick .non ix ds).map S.val) with
  | .ok (r, _) => .ok (r, τ)
  | .exc c fs _ => .exc c fs τ
  | .stuck => .stuck) else .stuck
theorem pick_vals : ∀ {ix : List Nat} {vs : List V} {us : List Value}, Vals vs us → Vals (pick .non ix vs) (pick .none ix us)
  | [], _, _, _ => .nil
  | i :: ix, vs, us, r => by
    refine .cons ?_ (pick_vals (ix := ix) r)
    have : ∀ {i : Nat} {vs : List V} {us : List Value}, Vals vs us → L2.RelV (vs.getD i .non) (us.getD i .none) := fun {i vs us} r => by
      induction r generalizing i with
      | nil => exact (show L2.RelV V.non Value.none from rfl)
      | cons h t ih =>
        cases i with
        | zero => simpa using h
        | succ i => simpa using ih
    exact this r
theorem pick_fz {G : Gx} : ∀ {ix : List Nat} {vs : List V} {ds : List D}, FzL G Φ vs ds → FzL G Φ (pick .non ix vs) (pick .non ix ds)
  | [], _, _, _ => .nil
  | i :: ix, vs, ds, r => by
    refine .cons ?_ (pick_fz (ix := ix) r)
    have : ∀ {i : Nat} {vs : List V} {ds : List D}, FzL G Φ vs ds → Fz G Φ (vs.getD i .non) (ds.getD i .non) := fun {i vs ds} => by
      induction ds generalizing i vs with
      | nil => intro r; cases r; simpa using Fz.non
      | cons d ds ih =>
        intro r
        cases r with
        | cons h t =>
          cases i with
          | zero => simpa using h
          | succ i => simpa using ih t
    exact this r
theorem pe_kwonly {kws : List Keyword} {t : L2.TA} {f : Addr} {fd : FuncData} {ps ks : List Str} {ix : List Nat} {sp : Sp} (Ok : FnOk X.prog X.w X.K X.mg X.base (L2.CX X.prog X.w) k f fd ps sp) (hr : Room k X.A) (tk : Takes X W) (hg : Gl X x) (hm : X.mg x = some (.ref f)) (kp : PySem.W.keepIn X.K (.ref f) = true)
    (hb : ∀ (s : Shared) (ws : List Value), ws.length = ks.length → BindsTo s fd ⟨[], ks.zip ws⟩ (ps.zip (pick .none ix ws))) (hkw : PK X kws t) (hall : (backToKw pos (keywordEach kws X.env)).all (·.1.isSome) = true := by rfl) (hks : (backToKw pos (keywordEach kws X.env)).filterMap (·.1) = ks := by rfl)
    (hdb : (x == ("__debug__" : Str)) = false := by decide) (hpl : ((backTo pos (starEach [] X.env)).any (·.1) || (backToKw pos (keywordEach kws X.env)).any (·.1.isNone)) = false := by rfl) :
    PE X (.Call (.Name x p) [] kws pos) (fun σ H Q => t σ H fun zs H1 => zs.length = ks.length ∧ sp (pick .non ix zs) H1 Q (WE W σ)) := by
  refine ⟨fun pins s σ H Q I h => ?_⟩
  refine wpAny_Call_Name_kw (ld_glob I hg hm ?_ hdb)
  refine PySem.W.callWith_KW0 (h₀ := X.base) I.ok.mod.kin kp hall ?_ hpl
  refine thn (hkw.run pos pins s σ H _ I h) fun ws s2 ⟨zs, H2, I2, rz, hl0, q2⟩ => ⟨I2.kIn, ?_⟩
  rw [hks]
  have r2 := pick_vals (ix := ix) rz
  have hl : (pick .none ix ws).length = ps.length := by rw [← r2.length]; exact Ok.len _ _ _ _ q2
  refine wpAny_call (codeAny_mono (Ok.run X.A X.stack s2 H2 ⟨[], ks.zip ws⟩ (pick .none ix ws) (pick .non ix zs) Q (WE W σ) hr I2.env0 (hb s2 ws (by rw [← rz.length]; exact hl0)) r2 q2) fun r s' hq => ?_)
  cases r with
  | error e => exact passAt tk σ pins H2 s2 e s' I2 hq
  | ok fl =>
    cases fl with
    | ret u => exact I2.after hq
    | next => exact False.elim hq
    | brk => exact False.elim hq
    | cont => exact False.elim hq
theorem t_callK {mf : Fn} {n nk : Nat} {ix : List Nat} {Q : VK} (pr : Proper mf) (hn : ∀ ss, mf ss ≠ .stuck → ss.length = n) (h : TEm F W (eCallK ix nk mf ms) σ H Q) : TLm F W ms σ H fun vs H1 => vs.length = nk ∧ spM F.G n mf (pick .non ix vs) H1 Q (WE W σ) := by
  obtain ⟨Φ, τ, tm, rl, h⟩ := h
  refine tl_go rl h.bnd fun ss τ1 vs H1 Φ1 p1 l r1 => ?_
  obtain ⟨ds, τ2, e, p2⟩ := takeAll_cases (Wp.bnd p1)
  obtain ⟨Φ2, r2, q⟩ := Rl.takenAll l r1 e
  have lq := q.length
  split at p2
  case isFalse => exact p2.elim
  rename_i hz
  refine ⟨by rw [lq]; exact hz, ?_⟩
  have ne : mf ((pick .non ix ds).map S.val) ≠ .stuck := fun z => by
    rw [z] at p2
    exact p2
  refine ⟨Φ2, fun _ => none, (pick .non ix ds).map S.val, hn _ ne, r2.enter0 (pick_fz q), fun s hs => ?_, ?_⟩
  · obtain ⟨d, _, e⟩ := List.mem_map.mp hs
    rw [← e]; trivial
  · cases hm : mf ((pick .non ix ds).map S.val) with
    | stuck => exact ne hm
    | ok p =>
      obtain ⟨r, out⟩ := p
      rw [hm] at p2
      intro v H' Φ' c
      have r3 := r2.after0 c fun _ => rfl
      exact p2 v H' Φ' (r3.handed (H := H1) (P := fun _ => none) r2.dom (fun p hp a ha => r2.there p hp a ha) c.hd (pr _ _ _ hm))
    | exc c fs out =>
      rw [hm] at p2
      intro cls d H' Φ' c1 x
      have r3 := r2.after0 c1 fun _ => rfl
      exact p2 cls d σ H' Φ' r3 x
theorem em_callK {n : Nat} {kws : List Keyword} {mf : Fn} {ks : List Str} {ix : List Nat} (ft : Fits X F W) (hr : Room k X.A) (df : KwOk X.prog X.w X.K X.mg X.base F.G k x n ks ix mf) (ha : KM X F W kws ms) (hall : (backToKw pos (keywordEach kws X.env)).all (·.1.isSome) = true := by rfl) (hks : (backToKw pos (keywordEach kws X.env)).filterMap (·.1) = ks := by rfl)
    (hg : Gl X x := by rfl) (hdb : (x == ("__debug__" : Str)) = false := by decide) (hpl : ((backTo pos (starEach [] X.env)).any (·.1) || (backToKw pos (keywordEach kws X.env)).any (·.1.isNone)) = false := by rfl) :
    EM X F W (.Call (.Name x p) [] kws pos) (eCallK ix ks.length mf ms) := by
  obtain ⟨f, fd, ps, Ok, gm, kp, b⟩ := df.ex
  exact PE.imp (pe_kwonly Ok hr ft.tk hg gm kp b ha hall hks hdb hpl) fun σ H Q h => t_callK df.pr df.ar h
end
end Mi

/-! ### M14: g(lambda: body) -/
namespace Mi
open PySem PySem.Spec PyProof.Rows L2
open LamX (CodeO TabB LamS lamEnv lamCx lam_start2 ExtN Tabs inv_table codeO_ne among_app)

/-- what a body without parameters comes to -/
inductive Th where
  | ok (d : D) | exc (c : Str) (fs : List (Str × D)) | stuck
/-- plain slots alone -/
def only (τ : List S) : List S := τ.map fun s => match s with
  | .val d => .val d
  | _ => .non
def thk (ml : M S) (τ : List S) : Th := match M.bnd ml take (only τ) with
  | .ok (d, _) => .ok d
  | .exc c fs _ => .exc c fs
  | .stuck => .stuck
/-- a() where the slot 0 holds the body -/
def eThunk (o : Th) : M S := fun τ => match τ[0]? with
  | some S.raw => (match o with
    | .ok d => .ok (.val d, τ)
    | .exc c fs => .exc c fs τ
    | .stuck => .stuck)
  | _ => .stuck
/-- the def that is handed it, n names -/
def runG (n : Nat) (m : Th → M Fl) : Th → R S := fun o => match m o (S.raw :: List.replicate (n - 1) S.non) with
  | .ok (f, _) => (match f with
    | .nx => .ok (.val .non)
    | .rt s => if retS s = true then .ok s else .stuck
    | _ => .stuck)
  | .exc c fs _ => .exc c fs []
  | .stuck => .stuck
/-- g(lambda: body); cap: the slots that the body reads -/
def eLam (cap : List Nat) (ml : M S) (g : Th → R S) : M S := M.bnd (takeAll (cap.map .ali)) fun _ => fun τ => match g (thk ml τ) with
  | .ok s => .ok (s, τ)
  | .exc c fs _ => .exc c fs τ
  | .stuck => .stuck
section
variable {F : Fm} {W : WX} {Φ Φ' H H' : Hp} {σ : L2.St} {τ τ' : List S} {tm : Env1}
/-- named slots join the world -/
theorem Rl.frz : ∀ {cap : List Nat} {Φ : Hp} {τ τ' : List S} {ds : List D}, Rl F Φ H σ τ tm → takeAll (cap.map .ali) τ = .ok (ds, τ') → ∃ Φ', Rl F Φ' H σ τ' tm
  | [], Φ, τ, τ', ds, r, e => by
    cases e
    exact ⟨Φ, r⟩
  | i :: cap, Φ, τ, τ', ds, r, e => by
    obtain ⟨d, τ1, e1, e⟩ := bnd_ok e
    obtain ⟨ds', τ2, e2, e⟩ := bnd_ok e
    cases e
    have hs : ∃ s, τ[i]? = some s ∧ s.real := by
      cases h : τ[i]? with
      | none => unfold take at e1; simp only [h] at e1; cases e1
      | some s =>
        refine ⟨s, rfl, ?_⟩
        unfold take at e1
        simp only [h] at e1
        cases s <;> first | trivial | cases e1
    obtain ⟨s, h1, h2⟩ := hs
    obtain ⟨v, e3, _, o⟩ := r.at h1
    have hv : ∃ x, v = some x := by
      cases s with
      | val d => obtain ⟨x, q, _⟩ := o; exact ⟨x, q⟩
      | own o' => obtain ⟨a, q, _⟩ := o; exact ⟨_, q⟩
      | lent j o' => obtain ⟨a, q, _⟩ := o; exact ⟨_, q⟩
      | non => exact h2.elim
      | raw => exact h2.elim
      | ali k => exact h2.elim
    obtain ⟨x, rfl⟩ := hv
    have r1 : Rl F Φ H σ τ ((some x, .ali i) :: tm) := r.put (p := (some x, .ali i)) ⟨x, s, rfl, e3, h1, h2⟩ fun _ _ => apart_none holds_ali
    obtain ⟨Φ1, r2⟩ := r1.taken e1
    exact Rl.frz r2.tl e2
/-- plain slots, of a frame of their own -/
theorem Rl.plain (r : Rl F Φ H σ τ tm) {F' : Fm} (hG : F'.G = F.G) {Φ1 H1 : Hp} (l : Le Φ Φ1) (c : Rl F' Φ1 H1 [] [] []) : Rl F' Φ1 H1 σ (only τ) [] := by
  have nh : ∀ p ∈ σ.zip (only τ), holds p = none := fun p hp => by
    obtain ⟨v, s⟩ := p
    obtain ⟨s', _, e⟩ := List.mem_map.mp (List.of_mem_zip hp).2
    subst e
    cases s' <;> first | exact holds_val | exact holds_non
  refine ⟨by unfold only; rw [List.length_map]; exact r.len, fun s hs => ?_, c.le0, c.le, c.pres, c.dom, c.new, fun p hp => ?_, ?_, c.tabs⟩
  · obtain ⟨s', _, e⟩ := List.mem_map.mp hs
    subst e
    cases s' <;> trivial
  · rw [both, List.append_nil] at hp
    obtain ⟨i, hi, e⟩ := List.getElem_of_mem hp
    have hx : (σ.zip (only τ))[i]? = some p := by rw [List.getElem?_eq_getElem hi, e]
    obtain ⟨h1, h2⟩ := List.getElem?_zip_eq_some.mp hx
    unfold only at h2
    rw [List.getElem?_map] at h2
    obtain ⟨s', h3, h4⟩ := Option.map_eq_some_iff.mp h2
    obtain ⟨v, s⟩ := p
    simp only at h1 h4
    subst h4
    obtain ⟨v', e1, _, o⟩ := r.at h3
    rw [h1] at e1
    cases e1
    cases s' with
    | val d =>
      obtain ⟨x, q1, q2⟩ := o
      exact ⟨x, q1, by rw [hG]; exact Fz.le l q2⟩
    | _ => trivial
  · rw [both, List.append_nil, List.pairwise_iff_getElem]
    intro i j hi hj _
    exact apart_none (nh _ (List.getElem_mem hi))
end

section
variable {X : Cx} {pins : List (Addr × Obj)} {σ : L2.St} {H HZ : Hp} {s : Shared}
/-- a body is made; nothing that was known is forgotten -/
theorem lam_madeS {T : List (Addr × Str)} {c P : Addr} {params : Arguments} {body : Expr} {scope : Scope} {pos : Pos} {Ez : Value → Shared → Prop} {Qz : Value → Shared → Prop} (In0 : Inv X pins σ H s) (Tb : TabB X.base X.mg c P) (atC : X.env.code = .ref c)
    (inT : (P, X.env.qual ++ "<lambda>") ∈ T) (onT : ∀ p ∈ T, p.1 = P → p.2 = X.env.qual ++ "<lambda>") (tabs0 : Tabs T H) (nodef : defaultsOf params X.env = ([], [])) (caps : ∀ y ∈ scope.names, y.2 = .free → ∃ c, X.env.cells.lookup y.1 = some c)
    (go : ∀ (f c' : Addr) (pm ctv : Value) (H1 : Hp) (s' : Shared), Inv X pins σ H1 s' → ExtN H H1 → Tabs T H1 → (∀ b, H1 b = none → H b = none) →
      s'.heap.get? f = some (PySem.W.kla_obj "<lambda>" (X.env.qual ++ "<lambda>") params body scope (cloFrom X.env.cells scope.names []) pm c' ctv) → H1 f = none → f ∉ frs X.stack → H1 c' = some (CodeO c' (X.env.qual ++ "<lambda>")) → Qz (.ref f) s') :
    wpAny (model X.prog X.w) X.A (eval (.Lambda params body scope pos) X.env) Qz Ez s := by
  obtain ⟨trip, tabP, okT, among0⟩ := tabs0 _ inT
  refine PySem.W.kla_eval nodef ?_
  have bmP : s.heap.BuiltinsAt X.mg P := Tb.bm.keeps In0.bk
  have tabP' : s.heap.get? P = some { cls := .none, data := .fields trip } := In0.hok P _ tabP
  have noFr : ∀ f, s.heap.objs.size ≤ f → f ∉ frs X.stack := fun f hf z => by
    rcases List.mem_cons.mp (In0.stkSub _ z) with e | e
    · have h1 := In0.lt
      rw [← e] at h1
      exact Nat.lt_irrefl _ (Nat.lt_of_lt_of_le h1 hf)
    · exact In0.nofs hf e
  cases cAm : codeAmong pos trip.toList with
  | none =>
    refine PySem.W.kla_makeFunction (mg := X.mg) (c := c) (P := P) (ps := trip) (closure_ok caps) In0.ok.glob (In0.mod.glob.keeps In0.bk) atC (Tb.code.keeps In0.bk) tabP' okT cAm Tb.gP bmP fun c' ctv hp' tk exX geS ltS hrec htb => ?_
    obtain ⟨c2, oc, vs, t, eq2, hoc, hd, hv⟩ := hrec
    cases eq2
    have leS : s.heap.objs.size ≤ hp'.objs.size := Nat.le_trans geS (Nat.le_of_lt ltS)
    have newC : H c' = none := In0.hok.fresh geS
    have In1 := inv_table (t' := tk) (more := #[rawInt pos.line, rawInt pos.col, .ref c']) (h' := hp'.push (PySem.W.kla_obj "<lambda>" (X.env.qual ++ "<lambda>") params body scope (cloFrom X.env.cells scope.names []) ((X.mg "__name__").getD .none) c' ctv)) In0 tabP
      (fun b o eqP e => Heap.get?_push_of_some _ (exX b o eqP e)) (Heap.get?_push_of_some _ htb) geS ⟨oc, vs, t, Heap.get?_push_of_some _ hoc, hd, hv⟩
    have exN : ExtN H (upd (upd H P (.tbl (trip ++ #[rawInt pos.line, rawInt pos.col, .ref c']))) c' (CodeO c' (X.env.qual ++ "<lambda>"))) := fun b o e n => by
      rw [upd_ne (ne_of_none e newC), upd_ne (fun z => n trip (Option.some.inj (e.symm.trans (by rw [z]; exact tabP))))]
      exact e
    have litE : (trip ++ #[rawInt pos.line, rawInt pos.col, .ref c']).toList = trip.toList ++ [rawInt pos.line, rawInt pos.col, .ref c'] := by simp
    refine go hp'.objs.size c' ((X.mg "__name__").getD .none) ctv _ _ In1 exN (fun p hp => ?_) (fun b z => none_upd b (none_upd b z)) (Heap.get?_push_size _ rfl) ?_ (noFr _ leS) upd_same
    · by_cases eqP : p.1 = P
      · rw [onT p hp eqP, eqP]
        refine ⟨_, by rw [upd_ne (ne_of_none tabP newC), upd_same], by rw [litE]; exact PySem.TriplesOk_snoc _ _ _ _ okT, fun p' cv amV => ?_⟩
        rw [litE] at amV
        rcases among_app _ okT amV with z | z
        · obtain ⟨c0, eq1, eq2⟩ := among0 p' cv z
          exact ⟨c0, eq1, exN _ _ eq2 codeO_ne⟩
        · exact ⟨c', z, upd_same⟩
      · obtain ⟨trip', a1, a2, a3⟩ := tabs0 p hp
        refine ⟨trip', by rw [upd_ne (ne_of_none a1 newC), upd_ne eqP]; exact a1, a2, fun p' cv amV => ?_⟩
        obtain ⟨c0, eq1, eq2⟩ := a3 p' cv amV
        exact ⟨c0, eq1, exN _ _ eq2 codeO_ne⟩
    · have n1 : hp'.objs.size ≠ c' := Nat.ne_of_gt ltS
      have n2 : hp'.objs.size ≠ P := Nat.ne_of_gt (Nat.lt_of_lt_of_le (Heap.lt_size tabP') leS)
      rw [upd_ne n1, upd_ne n2]
      exact In0.hok.fresh leS
  | some cv =>
    obtain ⟨c', e, isC⟩ := among0 pos cv cAm
    subst e
    refine PySem.W.kla_makeFunctionHit (mg := X.mg) (c := c) (P := P) (ps := trip) (closure_ok caps) In0.ok.glob (In0.mod.glob.keeps In0.bk) atC (Tb.code.keeps In0.bk) tabP' okT cAm bmP fun ctv hp' tk exX leS => ?_
    have In1 : Inv X pins σ H { s with heap := hp'.push (PySem.W.kla_obj "<lambda>" (X.env.qual ++ "<lambda>") params body scope (cloFrom X.env.cells scope.names []) ((X.mg "__name__").getD .none) c' ctv), toks := tk } := In0.kept fun b o e => Heap.get?_push_of_some _ (exX b o e)
    exact go hp'.objs.size c' ((X.mg "__name__").getD .none) ctv H _ In1 (ExtN.refl H) tabs0 (fun b z => z) (Heap.get?_push_size _ rfl) (In0.hok.fresh leS) (noFr _ leS) isC
/-- the body called where it was handed: what it may let out is read at the caller's slots -/
theorem pe_actS {qg : Str} {Eg : XK} {Ng : List Str} {sg : Scope} {g f c' : Addr} {cdg pm ctv : Value} {params : Arguments} {body : Expr} {scope : Scope} {k i : Nat} {a : Str} {pn : List (Addr × Obj)} {xe : Value → Shared → Prop} {W : WX} {tb : XK → L2.TE} {p1 p2 : Pos}
    (I : Inv X pins σ H s) (L : LamS X.env.scope scope) (hob : s.heap.get? f = some (PySem.W.kla_obj "<lambda>" (X.env.qual ++ "<lambda>") params body scope (cloFrom X.env.cells scope.names []) pm c' ctv)) (hnew : H f = none) (hout : f ∉ frs X.stack)
    (hba : bindArgs (PySem.W.kla_fn "<lambda>" (X.env.qual ++ "<lambda>") params body scope (cloFrom X.env.cells scope.names []) pm (.ref c') ctv) ⟨[], []⟩ = pure [])
    (tk : Takes ((cxOf (L2.CX X.prog X.w) X.prog X.w X.K X.mg X.base Ng qg sg g cdg X.A X.stack s H Eg).tr pn xe) W) (room : Room (k + 1) (X.A.deeper (envOfC qg sg s.heap.objs.size g cdg)))
    (hbd : ∀ (E : XK) (A : Around) (outer : List Env) (s : Shared) (H : Hp), Room k (A.deeper (lamEnv X scope s.heap.objs.size f c')) → PE (lamCx X A outer s H E scope f c') body (tb E))
    (hN : Ng[i]? = some a) (hv : Vis sg a) (hd : (a == ("__debug__" : Str)) = false) (hcd : (a == ("__classdict__" : Str)) = false) :
    PE ((cxOf (L2.CX X.prog X.w) X.prog X.w X.K X.mg X.base Ng qg sg g cdg X.A X.stack s H Eg).tr pn xe) (.Call (.Name a p1) [] [] p2)
      (fun τ1 H1 Q1 => τ1[i]? = some (some (.ref f)) ∧ H1 c' = some (CodeO c' (X.env.qual ++ "<lambda>")) ∧ tb (WE W τ1) σ H1 Q1) := by
  refine ⟨fun pins1 s1 τ1 H1 Q1 I1 ⟨at1, code1, rd1⟩ => ?_⟩
  refine wpAny_Call_Name_kw (thn ((pe_var (pos := p1) (i := i) hN hv hd hcd).run pins1 s1 τ1 H1 (fun v G => v = .ref f ∧ G = H1) I1 ⟨.ref f, at1, rfl, rfl⟩) fun u s2 ⟨v, G, I2, rv, ev, eG⟩ => ?_)
  subst ev
  subst eG
  obtain rfl : u = Value.ref f := rv
  have of2 := I2.base.keep f _ hob hnew hout (fun z => nomatch (show f ∈ ([] : List Addr) from z))
  refine PySem.W.callWith_F0 ⟨_, _, _, _, of2⟩ ?_
  have un : Un (frs X.stack) [] H G s.heap s2.heap := I2.base
  obtain ⟨⟨oc, vs, t, hoc, hdc, hvc⟩, _, _⟩ := I2.hok c' _ code1
  have run : codeAny (model X.prog X.w) (X.A.deeper (envOfC qg sg s.heap.objs.size g cdg)) (.call (.ref f) ⟨[], []⟩) (CR (L2.CX X.prog X.w) (envOfC qg sg s.heap.objs.size g cdg :: X.stack) X.prog X.w G s2 Q1 (WE W τ1)) s2 := by
    refine PySem.W.kla_callFunE room.depth of2 rfl L.co L.gen rfl ⟨c', oc, vs, t, rfl, hoc, hdc, hvc⟩ ?_
    rw [hba]
    refine wpAny_pure (wpAny_newFunctionEnv (fun y hy => (L.own y hy).2) (fun y hy => absurd hy (by simp)) (fun h₁ ns₁ sb₁ => ⟨I2.nolimit.fresh _ sb₁, ?_⟩) L.kind)
    show codeAny _ _ (.expr body (lamEnv X scope s2.heap.objs.size f c')) _ _
    have kp₁ : ∀ b o, s2.heap.get? b = some o → h₁.get? b = some o := fun b o e => sb₁.extBut b o (Nat.ne_of_lt (Heap.lt_size e)) (Heap.get?_push_of_some _ e)
    have J := lam_start2 (E := WE W τ1) (f := f) (c' := c') (tk := s2.toks + ([] : List (Str × Value)).length) I L I2.env0 room.hd un ns₁ kp₁
    refine PySem.W.kla_codeExpr (wpAny_mono ((hbd (WE W τ1) _ _ s2 G (room.deeper _)).run [] _ _ G Q1 J rd1) (fun v s' ⟨v', H', J', rv, q⟩ => ⟨v', H', J'.os, J'.bare, J'.base, J'.hok, rv, q⟩) fun e s' hq => hq)
  refine wpAny_call (codeAny_mono run fun r s' hq => ?_)
  cases r with
  | error e => exact passAt tk τ1 pins1 G s2 e s' I2 hq
  | ok fl =>
    cases fl with
    | ret u => exact I2.after hq
    | next => exact False.elim hq
    | brk => exact False.elim hq
    | cont => exact False.elim hq
end
/-- what the written part says of the def that is handed a body -/
structure GivOk (P : Program) (w : World) (K : PySem.W.Frag) (mg : Str → Option Value) (base : Heap) (G : Gx) (k : Nat) (x : Str) (gv : Th → R S) : Prop where
  ex : ∃ (a : Str) (g : Addr) (pg : Arguments) (bg : List Stmt) (sg : Scope) (dV kV doc pm cdv ct oc : Value) (an od : Option Addr) (osl : Array (Option Value)) (Ng : List Str) (m : Th → M Fl),
    mg x = some (.ref g) ∧ PySem.W.keepIn K (.ref g) = true ∧ K.lookup g = some ⟨oc, od, .func (PySem.W.fnOf x x pg bg sg dV kV doc pm an cdv ct), osl⟩ ∧ PySem.W.codeIn K cdv x = true ∧ Binds K (PySem.W.fnOf x x pg bg sg dV kV doc pm an cdv ct) [a] [] ∧ FnScope Ng [a] sg ∧
    gv = runG Ng.length m ∧ (a == ("__debug__" : Str)) = false ∧ (a == ("__classdict__" : Str)) = false ∧
    ∀ (A : Around) (outer : List Env) (s : Shared) (H : Hp) (E : XK) (F : Fm) (o : Th), F.G = G → Room k (A.deeper (envOfC x sg s.heap.objs.size g cdv)) →
      (∀ (W : WX) (pn : List (Addr × Obj)) (xe : Value → Shared → Prop) (p1 p2 : Pos), Fits ((cxOf (L2.CX P w) P w K mg base Ng x sg g cdv A outer s H E).tr pn xe) F W → EM ((cxOf (L2.CX P w) P w K mg base Ng x sg g cdv A outer s H E).tr pn xe) F W (.Call (.Name a p1) [] [] p2) (eThunk o)) →
      Fits (cxOf (L2.CX P w) P w K mg base Ng x sg g cdv A outer s H E) F (fun cls d _ H => E cls d H) →
      BlM (cxOf (L2.CX P w) P w K mg base Ng x sg g cdv A outer s H E) F (fun cls d _ H => E cls d H) bg (m o)
/-- where the maker's code object and its table stand -/
structure TabOk (X : Cx) (G : Gx) (c P : Addr) : Prop where
  tb : TabB X.base X.mg c P
  code : X.env.code = .ref c
  mem : (P, X.env.qual ++ "<lambda>") ∈ G.T
  un : ∀ p ∈ G.T, p.1 = P → p.2 = X.env.qual ++ "<lambda>"
section
variable {X : Cx} {F : Fm} {W : WX} {Φ Φ' H H' : Hp} {σ : L2.St} {τ τ' : List S} {tm : Env1}
/-- the frame of the def that is handed a body -/
theorem Rl.enterG (r : Rl F Φ H σ τ tm) {f : Addr} : Rl ⟨F.G, Φ, H, fun _ => none, some f⟩ Φ H [some (.ref f)] [.raw] [] := by
  refine ⟨rfl, fun s hs => ?_, Le.refl _, r.le, (fun b o h _ _ => h), (fun b h => h), (fun b o h => .inl h), fun p hp => ?_, ?_, r.tabs⟩
  · cases hs with
    | head => trivial
    | tail _ h => cases h
  · cases hp with
    | head => exact ⟨f, rfl, rfl⟩
    | tail _ h => cases h
  · exact List.Pairwise.cons (fun _ h => nomatch h) List.Pairwise.nil
theorem Rl.startG {P : Nat → Option Addr} {f : Addr} {G : Gx} {Φ0 H0 : Hp} (r : Rl ⟨G, Φ0, H0, P, some f⟩ Φ H [some (.ref f)] [.raw] []) (N : List Str) : Rl ⟨G, Φ0, H0, P, some f⟩ Φ H (L2.start N [.ref f]) (.raw :: List.replicate (N.length - 1) .non) [] := by
  have z : (L2.start N [V.ref f]).zip (S.raw :: List.replicate (N.length - 1) .non) = (some (V.ref f), S.raw) :: List.replicate (N.length - 1) (none, S.non) := by
    unfold L2.start
    show (some (V.ref f), S.raw) :: (List.replicate (N.length - 1) none).zip (List.replicate (N.length - 1) S.non) = _
    rw [zip_replicate]
  have nn : ∀ p ∈ List.replicate (N.length - 1) ((none : Option V), S.non), p = (none, .non) := fun p hp => List.eq_of_mem_replicate hp
  refine ⟨by unfold L2.start; simp, fun s hs => ?_, r.le0, r.le, r.pres, r.dom, r.new, fun p hp => ?_, ?_, r.tabs⟩
  · rcases List.mem_cons.mp hs with q | q
    · rw [q]; trivial
    · rw [List.eq_of_mem_replicate q]; trivial
  · rw [both, List.append_nil, z] at hp
    rcases List.mem_cons.mp hp with q | q
    · rw [q]; exact ⟨f, rfl, rfl⟩
    · rw [nn p q]; trivial
  · rw [both, List.append_nil, z]
    refine List.pairwise_cons.mpr ⟨fun _ _ => apart_none rfl, ?_⟩
    refine List.Pairwise.imp_of_mem (fun {a b} ha _ _ => ?_) (List.pairwise_replicate.mpr (.inr trivial) : (List.replicate _ ((none : Option V), S.non)).Pairwise (fun _ _ => True))
    rw [nn a ha]
    exact apart_none rfl
/-- a frame without its slots -/
theorem Rl.bare {f : Option Addr} {G : Gx} {Φ0 H0 : Hp} {P : Nat → Option Addr} (r : Rl ⟨G, Φ0, H0, P, f⟩ Φ H σ τ tm) : Rl ⟨G, Φ0, H0, P, none⟩ Φ H [] [] [] :=
  ⟨rfl, (fun _ h => nomatch h), r.le0, r.le, r.pres, r.dom, r.new, (fun _ h => nomatch h), List.Pairwise.nil, r.tabs⟩
/-- a frame of its own, begun here -/
theorem Rl.own0 (r : Rl F Φ H σ τ tm) : Rl ⟨F.G, Φ, H, fun _ => none, none⟩ Φ H [] [] [] :=
  ⟨rfl, (fun _ h => nomatch h), Le.refl _, r.le, (fun b o h _ _ => h), (fun b h => h), (fun b o h => .inl h), (fun _ h => nomatch h), List.Pairwise.nil, r.tabs⟩
/-- the world stays when a body is made -/
theorem Rl.made {H1 : Hp} (r : Rl F Φ H σ τ tm) (e : ExtN H H1) (t : Tabs F.G.T H1) (n : ∀ b, H1 b = none → H b = none) : Rl F Φ H1 σ τ tm := by
  refine r.grow (Le.refl _) (fun b o h => e b o (r.le b o h) fun ps z => ?_) e (fun b o h => .inl h) ⟨t, r.tabs.2⟩ n
  subst z
  exact r.tabs.2 b ps h
/-- behind a call of a frame of its own -/
theorem Rl.afterG {f : Option Addr} (r : Rl F Φ H σ τ tm) (c : Rl ⟨F.G, Φ, H, fun _ => none, f⟩ Φ' H' [] [] []) : Rl F Φ' H' σ τ tm :=
  r.grow c.le0 c.le (fun b o h h2 => c.pres b o h (fun j z => by cases z) h2) (fun b o h => c.new b o h) c.tabs c.dom
theorem em_lam {k : Nat} {x : Str} {g : Th → R S} {c P : Addr} {params : Arguments} {body : Expr} {scope : Scope} {lpos p pos : Pos} {ml : M S} (cap : List Nat) (ft : Fits X F W) (hr : Room (k + 2) X.A) (gv : GivOk X.prog X.w X.K X.mg X.base F.G (k + 1) x g) (tb : TabOk X F.G c P) (hg : Gl X x := by rfl) (hdb : (x == ("__debug__" : Str)) = false := by decide) (L : LamS X.env.scope scope := by exact LamX.lamS_by (by first | kernel_rfl | decide +kernel)) (hdef : defaultsOf params X.env = ([], []) := by rfl)
    (hbind : ∀ (q : Str) (cl : List (Str × Addr)) (pm cv ctv : Value), bindArgs (PySem.W.kla_fn "<lambda>" q params body scope cl pm cv ctv) ⟨[], []⟩ = pure [] := by intros; rfl)
    (hbody : ∀ (A : Around) (outer : List Env) (s : Shared) (H : Hp) (E : XK) (f c' : Addr) (F' : Fm) (W' : WX), F'.G = F.G → Room k (A.deeper (lamEnv X scope s.heap.objs.size f c')) → Fits (lamCx X A outer s H E scope f c') F' W' → EM (lamCx X A outer s H E scope f c') F' W' body ml) :
    EM X F W (.Call (.Name x p) [.Lambda params body scope lpos] [] pos) (eLam cap ml g) := by
  refine ⟨fun pins s σ H Q I ⟨Φ, τ, tm, r, h⟩ => ?_⟩
  obtain ⟨a, ga, pg, bg, sg, dV, kV, doc, pm, cdv, ct, oc, an, od, osl, Ng, m, hm, hk, lk, hcg, hb, Sg, eg, hd, hcd, BD⟩ := gv.ex
  obtain ⟨ds, τ1, e1, p1⟩ := takeAll_cases h.bnd
  obtain ⟨Φ1, r1⟩ := r.frz e1
  refine wpAny_Call_Name_kw (ld_glob I hg hm ?_ hdb)
  refine PySem.W.callWith_K (h₀ := X.base) I.ok.mod.kin hk ?_ (by rfl) (by rfl)
  show wpAny _ _ (spliced ((false, eval (.Lambda params body scope lpos) X.env) :: backTo pos (starEach [] X.env))) _ _ s
  refine Calls.spliced_cons (lam_madeS I tb.tb tb.code tb.mem tb.un r1.tabs.1 hdef (L.has I.ok) fun f c' pm' ctv H1 s' I1 eN T1 nn hf hfn hfr hco => ?_)
  refine Calls.spliced_nil ⟨I1.kIn, ?_⟩
  have r2 := r1.made eN T1 nn
  have hN0 : Ng[0]? = some a := by
    have := Sg.pre
    cases Ng with
    | nil => cases this
    | cons b r => cases this; rfl
  have hva : Vis sg a := by
    rcases Sg.par a List.mem_cons_self with q | q
    · exact .inl q
    · exact .inr (.inl q)
  have rc : codeAny (model X.prog X.w) X.A (.call (.ref ga) ⟨[.ref f], []⟩) (CR (L2.CX X.prog X.w) X.stack X.prog X.w H1 s' Q (WE W σ)) s' := by
    refine LamX.run_ofS (N := Ng) (ps := [a]) (us := [.ref f]) (vs := [.ref f]) lk hcg Sg hr I1.env0 (hb s' [.ref f] I1.kIn rfl) (.cons rfl .nil) rfl fun hr' => ?_
    have tk : Takes (cxOf (L2.CX X.prog X.w) X.prog X.w X.K X.mg X.base Ng x sg ga cdv X.A X.stack s' H1 (WE W σ)) (fun cls d _ H => WE W σ cls d H) := takes_of rfl rfl rfl rfl
    have po : PassesOwn (model X.prog X.w) (cxOf (L2.CX X.prog X.w) X.prog X.w X.K X.mg X.base Ng x sg ga cdv X.A X.stack s' H1 (WE W σ)).A (cxOf (L2.CX X.prog X.w) X.prog X.w X.K X.mg X.base Ng x sg ga cdv X.A X.stack s' H1 (WE W σ)).env (cxOf (L2.CX X.prog X.w) X.prog X.w X.K X.mg X.base Ng x sg ga cdv X.A X.stack s' H1 (WE W σ)).xe := passes_of (X := cxOf (L2.CX X.prog X.w) X.prog X.w X.K X.mg X.base Ng x sg ga cdv X.A X.stack s' H1 (WE W σ)) rfl
    have bl := BD X.A X.stack s' H1 (WE W σ) ⟨F.G, Φ1, H1, fun _ => none, some f⟩ (thk ml τ1) rfl hr' (fun W2 pn xe p1 p2 ft2 => ?_) ⟨rfl, Sg.nd, ft.K, tk, po⟩
    · refine ⟨_, bl, Φ1, _, [], (fun _ h => nomatch h), (r2.enterG (f := f)).startG Ng, ?_⟩
      unfold runG at eg
      rw [eg] at p1
      simp only at p1
      cases q : m (thk ml τ1) (.raw :: List.replicate (Ng.length - 1) .non) with
      | stuck => rw [q] at p1; exact p1.elim
      | exc c1 fs1 τ2 =>
        rw [q] at p1
        exact fun cls d σ' H' Φ' r' x' => p1 cls d σ H' Φ' (r2.afterG r'.bare) x'
      | ok pr =>
        obtain ⟨fl, τ2⟩ := pr
        rw [q] at p1
        cases fl with
        | bk => exact p1.elim
        | ct => exact p1.elim
        | nx => exact fun σ' H' Φ' r' => p1 .non H' Φ' ((r2.afterG r'.bare).val .non)
        | rt s2 =>
          cases q2 : retS s2 with
          | false => simp only [q2, Bool.false_eq_true, if_false] at p1; exact p1.elim
          | true =>
            simp only [q2, if_true] at p1
            exact fun v σ' H' Φ' r' => p1 v H' Φ' (by
              have o : One ⟨F.G, Φ1, H1, fun _ => none, none⟩ Φ' H' σ' τ2 (some v, s2) := by
                cases s2 <;> first | exact r'.hd | cases q2
              exact (r2.afterG r'.bare).handed (H := H1) (P := fun _ => none) r2.dom (fun p hp a ha => r2.there p hp a ha) o q2)
    · refine PE.imp (pe_actS (i := 0) (tb := fun E σ H Q => ∃ F' : Fm, F'.G = F.G ∧ TEm F' (fun cls d _ H => E cls d H) ml σ H Q) I1 L hf hfn hfr (hbind _ _ _ _ _) ft2.tk hr' (fun E A outer s H hr2 => ⟨fun pins' s' σ' H' Q' I' ⟨F', eG, hq⟩ => ?_⟩) hN0 hva hd hcd) fun σZ HZ QZ hz => ?_
      · exact (hbody A outer s H E f c' F' (fun cls d _ H => E cls d H) eG hr2 ⟨rfl, ft.nd, by rw [eG]; exact ft.K, takes_of rfl rfl rfl rfl, passes_of rfl⟩).run pins' s' σ' H' Q' I' hq
      · obtain ⟨ΦZ, τZ, tmZ, rZ, hz⟩ := hz
        unfold eThunk at hz
        cases e0 : τZ[0]? with
        | none => rw [e0] at hz; exact hz.elim
        | some s0 =>
          rw [e0] at hz
          cases s0 with
          | raw =>
            obtain ⟨v, e2, _, fa, e3, e4⟩ := rZ.at e0
            cases e4
            subst e3
            have rL : Rl ⟨F.G, ΦZ, HZ, fun _ => none, none⟩ ΦZ HZ σ (only τ1) [] := r2.plain (F' := ⟨F.G, ΦZ, HZ, fun _ => none, none⟩) rfl rZ.le0 rZ.own0
            refine ⟨e2, rZ.pres c' _ hco (fun j z => by cases z) codeO_ne, ⟨F.G, ΦZ, HZ, fun _ => none, none⟩, rfl, ΦZ, only τ1, [], rL, ?_⟩
            simp only at hz
            unfold thk M.bnd at hz
            cases e5 : ml (only τ1) with
            | stuck => simp only [e5] at hz; exact hz
            | exc c2 fs2 τ2 =>
              simp only [e5] at hz
              exact fun cls d σ' H' Φ' r' x' => hz cls d σZ H' Φ' (rZ.afterG r'.bare) x'
            | ok pr =>
              obtain ⟨s5, τ5⟩ := pr
              simp only [e5] at hz
              cases e6 : take s5 τ5 with
              | stuck => simp only [e6] at hz; exact hz.elim
              | exc c2 fs2 τ2 =>
                exfalso
                unfold take at e6
                split at e6 <;> (first | (cases e6; done) | (split at e6 <;> cases e6))
              | ok pr2 =>
                obtain ⟨d6, τ6⟩ := pr2
                simp only [e6] at hz
                exact fun v H' Φ' r' => by
                  obtain ⟨Φ2, r7⟩ := r'.taken e6
                  obtain ⟨x, ex, fz⟩ := r7.hd
                  cases ex
                  exact hz v H' Φ2 ((rZ.afterG r7.bare).val fz)
          | _ => exact hz.elim
  refine wpAny_call (codeAny_mono rc fun r s2 hq => ?_)
  cases r with
  | error e => exact passAt ft.tk σ pins H1 s' e s2 I1 hq
  | ok fl =>
    cases fl with
    | ret u => exact I1.after hq
    | next => exact False.elim hq
    | brk => exact False.elim hq
    | cont => exact False.elim hq
end
end Mi

/-! ### M15: what the head tells; the end of a law -/
namespace Mi
open PySem PySem.Spec PyProof.Rows L2
open LamX (TabB LawAtS)

/-! #### the world of a law -/
abbrev Tq := He.Defn × Str
def lamQ (q : Str) : Str := (q ++ ".<locals>.") ++ "<lambda>"
def glOf (mg : Str → Option Value) : Str → Option Addr := fun x => match mg x with
  | some (.ref a) => some a
  | _ => none
def gxOf (tq : List Tq) (K : PySem.W.Frag) (mg : Str → Option Value) : Gx := ⟨K, glOf mg, glOf mg, tq.map fun p => ((He.cT K p.1).2, lamQ p.2)⟩
theorem glOf_iff {mg : Str → Option Value} {x : Str} {a : Addr} : glOf mg x = some a ↔ mg x = some (.ref a) := by
  unfold glOf
  split
  · rename_i b h
    rw [h]; simp
  · rename_i h
    constructor
    · intro z; cases z
    · intro z; exact absurd z (h a)
theorem globOk {tq : List Tq} {K : PySem.W.Frag} {mg : Str → Option Value} : GlobOk mg (gxOf tq K mg) := ⟨fun _ _ => glOf_iff, fun _ _ => glOf_iff⟩
structure HdOk (fa : List He.Fa) (fn : List He.DefD) (tq : List Tq) (exs : PySem.W.Frag → List Bool) (K : PySem.W.Frag) (mg : Str → Option Value) (base : Heap) : Prop where
  gl : ∀ x, (He.Fa.glo x).ok K = true → mg x = some (.ref (He.ga K x))
  fr : ∀ x, (He.Fa.free x).ok K = true → mg x = none
  fact : ∀ f ∈ fa, f.ok K = true
  defs : ∀ d ∈ fn, ∃ fd, FunD K d.name d.qual d.params d.body d.scope (d.dvs K) (d.kws K) (He.fAd K d.at_) fd
  more : (exs K).all id = true
  tabs : ∀ p ∈ tq, TabB base mg (He.cT K p.1).1 (He.cT K p.1).2
section
variable {fa : List He.Fa} {fn : List He.DefD} {tq : List Tq} {exs : PySem.W.Frag → List Bool} {K : PySem.W.Frag} {mg : Str → Option Value} {base : Heap}
theorem HdOk.glo (h : HdOk fa fn tq exs K mg base) (i : Nat) {x : Str} (e : fa[i]? = some (.glo x) := by rfl) : mg x = some (.ref (He.ga K x)) := h.gl x (h.fact _ (List.mem_of_getElem? e))
theorem HdOk.free (h : HdOk fa fn tq exs K mg base) (i : Nat) {x : Str} (e : fa[i]? = some (.free x) := by rfl) : mg x = none := h.fr x (h.fact _ (List.mem_of_getElem? e))
theorem HdOk.df (h : HdOk fa fn tq exs K mg base) (i : Nat) {d : He.DefD} (e : fn[i]? = some d := by rfl) : ∃ fd, FunD K d.name d.qual d.params d.body d.scope (d.dvs K) (d.kws K) (He.fAd K d.at_) fd := h.defs d (List.mem_of_getElem? e)
theorem HdOk.ex (h : HdOk fa fn tq exs K mg base) (i : Nat) {b : Bool} (e : (exs K)[i]? = some b := by rfl) : b = true := List.all_eq_true.mp h.more b (List.mem_of_getElem? e)
theorem HdOk.tab (h : HdOk fa fn tq exs K mg base) (i : Nat) {p : Tq} (e : tq[i]? = some p := by rfl) : TabB base mg (He.cT K p.1).1 (He.cT K p.1).2 := h.tabs p (List.mem_of_getElem? e)
end

/-! #### defs -/
section
variable {P : Program} {w : World} {K : PySem.W.Frag} {mg : Str → Option Value} {base : Heap} {G : Gx} {x : Str} {params : Arguments} {bdy : List Stmt} {scope : Scope} {f : Addr} {fd : FuncData} {N ps : List Str} {k : Nat} {m : M Fl}
theorem fnD {qual : Str} {dvs : List V} {kws : List (Str × V)} (hK : G.K = K) (Fu : FunD K x qual params bdy scope dvs kws f fd) (Sc : FnScope N ps scope)
    (body : ∀ (cdv : Value) (A : Around) (outer : List Env) (s : Shared) (H : Hp) (E : XK) (F : Fm), fd.code = cdv → F.G = G → Room k (A.deeper (envOfC qual scope s.heap.objs.size f cdv)) →
      Fits (cxOf (L2.CX P w) P w K mg base N qual scope f cdv A outer s H E) F (fun cls d _ H => E cls d H) → BlM (cxOf (L2.CX P w) P w K mg base N qual scope f cdv A outer s H E) F (fun cls d _ H => E cls d H) bdy m) :
    FnOk P w K mg base (L2.CX P w) (k + 1) f fd ps (spM G ps.length (runFn ps.length N.length m)) := by
  subst hK
  obtain ⟨oc, od, dV, kV, doc, pm, an, cdv, ct, osl, rfl, lk, hcd, _, _⟩ := Fu.ex
  refine fn_of lk hcd Sc (fun vs H Q E h => ?_) fun A outer s H vs Q E hr h => body_sp Sc hr h fun F eG ft => body cdv A outer s H E F rfl eG hr ft
  obtain ⟨Φ, Pl, ss, l, r, _⟩ := h
  rw [← l]
  simpa using r.len
/-- a def of the module without defaults -/
theorem defOk (hK : G.K = K) (Fu : FunD K x x params bdy scope [] [] f fd) (hm : mg x = some (.ref f)) (Sc : FnScope N ps scope)
    (hb : ∀ (kV doc pm : Value) (an : Option Addr) (cdv ct : Value) (us : List Value), us.length = ps.length → bindArgs (PySem.W.fnOf x x params bdy scope .none kV doc pm an cdv ct) ⟨us, []⟩ = pure (ps.zip us))
    (body : ∀ (cdv : Value) (A : Around) (outer : List Env) (s : Shared) (H : Hp) (E : XK) (F : Fm), fd.code = cdv → F.G = G → Room k (A.deeper (envOfC x scope s.heap.objs.size f cdv)) →
      Fits (cxOf (L2.CX P w) P w K mg base N x scope f cdv A outer s H E) F (fun cls d _ H => E cls d H) → BlM (cxOf (L2.CX P w) P w K mg base N x scope f cdv A outer s H E) F (fun cls d _ H => E cls d H) bdy m) :
    DefOk P w K mg base G (k + 1) x ps.length (runFn ps.length N.length m) :=
  ⟨⟨f, fd, ps, fnD hK Fu Sc body, hm, Fu.kp, Fu.bindsN hb⟩, proper_run, arity_run⟩
theorem DefOk.up {j n : Nat} {mf : Fn} (d : DefOk P w K mg base G j x n mf) (h : j ≤ k) : DefOk P w K mg base G k x n mf := by
  obtain ⟨f, fd, ps, o, hm, kp, b⟩ := d.ex
  exact ⟨⟨f, fd, ps, o.mono h, hm, kp, b⟩, d.pr, d.ar⟩
/-- the same, called by keywords alone -/
theorem kwOk {n : Nat} {mf : Fn} {ks : List Str} {ix : List Nat} (d : DefOk P w K mg base G k x n mf) (Fu : FunD K x x params bdy scope [] [] f fd) (hm : mg x = some (.ref f)) (hl : ix.length = n)
    (hb : ∀ (kV doc pm : Value) (an : Option Addr) (cdv ct : Value) (ws : List Value), ws.length = ks.length → bindArgs (PySem.W.fnOf x x params bdy scope .none kV doc pm an cdv ct) ⟨[], ks.zip ws⟩ = pure (ps.zip (pick .none ix ws)))
    (ok : FnOk P w K mg base (L2.CX P w) k f fd ps (spM G n mf)) : KwOk P w K mg base G k x n ks ix mf := by
  refine ⟨⟨f, fd, ps, ok, hm, Fu.kp, fun s ws hw => ?_⟩, d.pr, d.ar, hl⟩
  obtain ⟨oc, od, dV, kV, doc, pm, an, cdv, ct, osl, rfl, lk, hcd, hD, hK⟩ := Fu.ex
  rcases hD with ⟨_, rfl⟩ | ⟨e, _⟩
  · exact .of_eq (hb kV doc pm an cdv ct ws hw)
  · exact absurd rfl e
/-- a def that is handed a body -/
theorem givOk {a : Str} {mt : Th → M Fl} (hK : G.K = K) (Fu : FunD K x x params bdy scope [] [] f fd) (hm : mg x = some (.ref f)) (Sc : FnScope N [a] scope) (hd : (a == ("__debug__" : Str)) = false) (hcd : (a == ("__classdict__" : Str)) = false)
    (hb : ∀ (kV doc pm : Value) (an : Option Addr) (cdv ct : Value) (us : List Value), us.length = [a].length → bindArgs (PySem.W.fnOf x x params bdy scope .none kV doc pm an cdv ct) ⟨us, []⟩ = pure ([a].zip us))
    (body : ∀ (cdv : Value) (A : Around) (outer : List Env) (s : Shared) (H : Hp) (E : XK) (F : Fm) (o : Th), F.G = G → Room k (A.deeper (envOfC x scope s.heap.objs.size f cdv)) →
      (∀ (W : WX) (pn : List (Addr × Obj)) (xe : Value → Shared → Prop) (p1 p2 : Pos), Fits ((cxOf (L2.CX P w) P w K mg base N x scope f cdv A outer s H E).tr pn xe) F W → EM ((cxOf (L2.CX P w) P w K mg base N x scope f cdv A outer s H E).tr pn xe) F W (.Call (.Name a p1) [] [] p2) (eThunk o)) →
      Fits (cxOf (L2.CX P w) P w K mg base N x scope f cdv A outer s H E) F (fun cls d _ H => E cls d H) → BlM (cxOf (L2.CX P w) P w K mg base N x scope f cdv A outer s H E) F (fun cls d _ H => E cls d H) bdy (mt o)) :
    GivOk P w K mg base G k x (runG N.length mt) := by
  have bd := Fu.bindsN hb
  have kp := Fu.kp
  obtain ⟨oc, od, dV, kV, doc, pm, an, cdv, ct, osl, rfl, lk, hcd', _, _⟩ := Fu.ex
  exact ⟨a, f, params, bdy, scope, dV, kV, doc, pm, cdv, ct, oc, an, od, osl, N, mt, hm, kp, lk, hcd', bd, Sc, rfl, hd, hcd, fun A outer s H E F o eG hr act ft => body cdv A outer s H E F o eG hr act ft⟩
end
/-- the table of a def that makes bodies -/
theorem tabOk {fa : List He.Fa} {fn : List He.DefD} {tq : List Tq} {exs : PySem.W.Frag → List Bool} {X : Cx} {K : PySem.W.Frag} {qual y : Str} {params : Arguments} {bdy : List Stmt} {scope : Scope} {dvs : List V} {kws : List (Str × V)} {p : Tq} {fd : FuncData} (hd : HdOk fa fn tq exs K X.mg X.base) (Fu : FunD K y qual params bdy scope dvs kws (He.fAd K p.1) fd) (hc : fd.code = X.env.code) (i : Nat) (ei : tq[i]? = some p)
    (hq : X.env.qual ++ "<lambda>" = lamQ p.2) (un : ((tq.map fun p => (He.cT K p.1).2).Nodup)) : TabOk X (gxOf tq K X.mg) (He.cT K p.1).1 (He.cT K p.1).2 := by
  have hm := List.mem_of_getElem? ei
  obtain ⟨oc, od, dV, kV, doc, pm, an, cdv, ct, osl, efd, lk, hcd, _, _⟩ := Fu.ex
  have ec : fd.code = cdv := by rw [efd]
  obtain ⟨c, e⟩ := He.codeIn_ref hcd
  have e2 : fd.code = .ref c := ec.trans e
  refine ⟨hd.tabs p hm, ?_, ?_, fun q hq2 e3 => ?_⟩
  · rw [← hc, e2]
    exact congrArg Value.ref (He.codeOf_eq lk e2).symm
  · rw [hq]
    exact List.mem_map.mpr ⟨p, hm, rfl⟩
  · obtain ⟨r, hr, rfl⟩ := List.mem_map.mp hq2
    simp only at e3
    have : r = p := by
      have pw := List.pairwise_map.mp un
      have inj : ∀ {l : List Tq}, l.Pairwise (fun a b => (He.cT K a.1).2 ≠ (He.cT K b.1).2) → r ∈ l → p ∈ l → r = p := fun {l} => by
        induction l with
        | nil => intro _ h; cases h
        | cons z l ih =>
          intro h h1 h2
          obtain ⟨h3, h4⟩ := List.pairwise_cons.mp h
          rcases List.mem_cons.mp h1 with q1 | q1
          · rcases List.mem_cons.mp h2 with q2 | q2
            · rw [q1, q2]
            · exact absurd (by rw [← q1]; exact e3) (h3 p q2)
          · rcases List.mem_cons.mp h2 with q2 | q2
            · exact absurd (by rw [← q2]; exact e3.symm) (h3 r q1)
            · exact ih h4 q1 q2
      exact inj pw hr hm
    rw [this]
    exact hq.symm

/-! #### errors -/
def oexB (K : PySem.W.Frag) (C : Addr) : Bool := (match K.lookup C with
  | some ⟨.type t, _, .cls cd, sl⟩ => (match cd.mro, sl.toList with
    | .ref C' :: bm, [_, _, _, _, some (.builtin n), _] => decide (t = "type") && (decide (C' = C) && (decide (n = "ValueError.__new__") && (!cd.hasDel && (cd.hasDict && PySem.HandSPX.refsVE bm))))
    | _, _ => false)
  | _ => false) && (He.eqO (PySem.W.findIn K (.ref C) "__setattr__") (some (some (.builtin "object.__setattr__"))) && (decide (PySem.W.subIn K (.ref C) (.type "BaseException") = some true) && (decide (PySem.W.typeIn K (.ref C) = some (.type "type")) && PySem.W.keepIn K (.ref C))))
theorem oexB_ok {K : PySem.W.Frag} {C : Addr} (h : oexB K C = true) : OexC K C := by
  obtain ⟨h1, h2⟩ := He.ba h
  obtain ⟨h2, h3⟩ := He.ba h2
  obtain ⟨h3, h4⟩ := He.ba h3
  obtain ⟨h4, h5⟩ := He.ba h4
  refine ⟨?_, He.eqO_ok h2, of_decide_eq_true h3, of_decide_eq_true h4, h5⟩
  split at h1
  · rename_i t dd cd sl lk
    split at h1
    · rename_i C' bm k0 k1 k2 k3 n k5 hm hs
      obtain ⟨q1, h1⟩ := He.ba h1
      obtain ⟨q2, h1⟩ := He.ba h1
      obtain ⟨q3, h1⟩ := He.ba h1
      obtain ⟨q4, h1⟩ := He.ba h1
      obtain ⟨q5, q6⟩ := He.ba h1
      have e1 := of_decide_eq_true q1
      have e2 := of_decide_eq_true q2
      have e3 := of_decide_eq_true q3
      subst e1 e2 e3
      obtain ⟨nm, bs, mro, ns, qn, hd, sn, sub, ab, col, del⟩ := cd
      simp only at hm q4 q5
      have q4' : del = false := by simpa using q4
      subst hm q4' q5
      obtain ⟨l⟩ := sl
      simp only at hs
      subst hs
      exact ⟨nm, qn, ns, bs, bm, sn, sub, ab, col, dd, k0, k1, k2, k3, k5, lk, q6⟩
    · cases h1
  · cases h1
def excIB (K : PySem.W.Frag) (C : Addr) : Bool := (PySem.W.clsIn K C).isSome && (He.eqO (PySem.W.findIn K (.ref C) "__getattribute__") (some (some (.builtin "BaseException.__getattribute__"))) && (He.eqO (PySem.W.findIn K (.ref C) "__getattr__") (some none) && (decide (PySem.W.subIn K (.ref C) (.type "BaseException") = some true) &&
  (He.eqO (PySem.W.findIn K (.ref C) "__class__") (some (some (.builtin "object.__class__"))) && (He.eqO (PySem.W.specialIn K (.builtin "object.__class__") "__get__") (some (some (.builtin "getset_descriptor.__get__"))) && (decide (PySem.W.takesIn K (.builtin "object.__class__") = some true) && (decide (PySem.W.mroIn K C (.type "object") = some true) && PySem.W.hasDictIn K C)))))))
theorem excIB_ok {K : PySem.W.Frag} {C : Addr} (h : excIB K C = true) : ExcI K C := by
  obtain ⟨h1, h⟩ := He.ba h
  obtain ⟨h2, h⟩ := He.ba h
  obtain ⟨h3, h⟩ := He.ba h
  obtain ⟨h4, h⟩ := He.ba h
  obtain ⟨h5, h⟩ := He.ba h
  obtain ⟨h6, h⟩ := He.ba h
  obtain ⟨h7, h⟩ := He.ba h
  obtain ⟨h8, h9⟩ := He.ba h
  exact ⟨h1, He.eqO_ok h2, He.eqO_ok h3, of_decide_eq_true h4, He.eqO_ok h5, He.eqO_ok h6, of_decide_eq_true h7, of_decide_eq_true h8, h9⟩
def insIB (K : PySem.W.Frag) (x : Str) : Bool := (He.Fa.cls x).ok K && (He.eqO (PySem.W.findIn K (.ref (He.ga K x)) "__class__") (some (some (.builtin "object.__class__"))) && (He.eqO (PySem.W.specialIn K (.builtin "object.__class__") "__get__") (some (some (.builtin "getset_descriptor.__get__"))) && (decide (PySem.W.takesIn K (.builtin "object.__class__") = some true) && decide (PySem.W.mroIn K (He.ga K x) (.type "object") = some true))))
theorem insIB_ok {K : PySem.W.Frag} {x : Str} (h : insIB K x = true) : InsI K (He.ga K x) := by
  obtain ⟨h1, h⟩ := He.ba h
  obtain ⟨h5, h⟩ := He.ba h
  obtain ⟨h6, h⟩ := He.ba h
  obtain ⟨h7, h8⟩ := He.ba h
  exact ⟨He.cls_ok h1, He.eqO_ok h5, He.eqO_ok h6, of_decide_eq_true h7, of_decide_eq_true h8⟩
/-! #### isinstance, by a list of what is and what is not -/
def tgEq : Tg → Tg → Bool
  | .bt a, .bt b => decide (a = b)
  | .ins a, .ins b => decide (a = b)
  | .exc a, .exc b => decide (a = b)
  | _, _ => false
def clEq : Cl → Cl → Bool
  | .bt a, .bt b => decide (a = b)
  | .own a, .own b => decide (a = b)
  | _, _ => false
theorem tgEq_ok {a b : Tg} (h : tgEq a b = true) : a = b := by
  cases a <;> cases b <;> first | cases h | exact congrArg _ (of_decide_eq_true h)
theorem clEq_ok {a b : Cl} (h : clEq a b = true) : a = b := by
  cases a <;> cases b <;> first | cases h | exact congrArg _ (of_decide_eq_true h)
abbrev IsL := List (Tg × Cl × Bool)
def isTb (l : IsL) : IsT := fun t c => (l.find? fun e => tgEq e.1 t && clEq e.2.1 c).map (·.2.2)
def tgV (K : PySem.W.Frag) : Tg → Value
  | .bt n => .type n
  | .ins c => .ref (He.ga K c)
  | .exc c => .ref (He.ga K c)
def clV (K : PySem.W.Frag) : Cl → Value
  | .bt n => .type n
  | .own c => .ref (He.ga K c)
def tgB (K : PySem.W.Frag) : Tg → Bool
  | .bt _ => true
  | .ins c => (He.Fa.glo c).ok K && insIB K c
  | .exc c => (He.Fa.glo c).ok K && excIB K (He.ga K c)
def clB (K : PySem.W.Frag) : Cl → Bool
  | .bt _ => true
  | .own c => (He.Fa.glo c).ok K
def isB (l : IsL) (K : PySem.W.Frag) : Bool := l.all fun e => decide (PySem.W.kitOne K (tgV K e.1) (clV K e.2.1) = some e.2.2) && (tgB K e.1 && clB K e.2.1)
theorem isTb_mem {l : IsL} {t : Tg} {c : Cl} {b : Bool} (h : isTb l t c = some b) : (t, c, b) ∈ l := by
  unfold isTb at h
  obtain ⟨e, h1, h2⟩ := Option.map_eq_some_iff.mp h
  have h3 := List.mem_of_find?_eq_some h1
  have h4 := List.find?_some h1
  obtain ⟨q1, q2⟩ := He.ba h4
  have e1 := tgEq_ok q1
  have e2 := clEq_ok q2
  obtain ⟨t', c', b'⟩ := e
  simp only at e1 e2 h2
  subst e1 e2 h2
  exact h3
section
variable {fa : List He.Fa} {fn : List He.DefD} {tq : List Tq} {exs : PySem.W.Frag → List Bool} {K : PySem.W.Frag} {mg : Str → Option Value} {base : Heap}
theorem HdOk.gat (hd : HdOk fa fn tq exs K mg base) {c : Str} {C : Addr} (h : (He.Fa.glo c).ok K = true) (g : (gxOf tq K mg).cls c = some C) : C = He.ga K c := by
  have h1 := hd.gl c h
  rw [glOf_iff.mp g] at h1
  cases h1; rfl
theorem isOk (hd : HdOk fa fn tq exs K mg base) {l : IsL} (h : isB l K = true) : IsOk K (gxOf tq K mg) (isTb l) := by
  have get : ∀ {t c b}, isTb l t c = some b → PySem.W.kitOne K (tgV K t) (clV K c) = some b ∧ tgB K t = true ∧ clB K c = true := fun {t c b} e => by
    have := List.all_eq_true.mp h _ (isTb_mem e)
    obtain ⟨q1, q2⟩ := He.ba this
    obtain ⟨q2, q3⟩ := He.ba q2
    exact ⟨of_decide_eq_true q1, q2, q3⟩
  refine ⟨fun t u b vt vu e ht hu => ?_, fun c u b C e g => ?_, fun c u b C e g => ?_⟩
  · obtain ⟨q1, q2, q3⟩ := get e
    have e1 : vt = tgV K t := by
      cases ht with
      | bt n => rfl
      | ins g => exact congrArg Value.ref (hd.gat (He.ba q2).1 g)
      | exc g => exact congrArg Value.ref (hd.gat (He.ba q2).1 g)
    have e2 : vu = clV K u := by
      cases hu with
      | bt n => rfl
      | own g => exact congrArg Value.ref (hd.gat q3 g)
    rw [e1, e2]
    exact q1
  · obtain ⟨q1, q2, q3⟩ := get e
    obtain ⟨q4, q5⟩ := He.ba q2
    rw [hd.gat q4 g]
    exact insIB_ok q5
  · obtain ⟨q1, q2, q3⟩ := get e
    obtain ⟨q4, q5⟩ := He.ba q2
    rw [hd.gat q4 g]
    exact excIB_ok q5
/-! #### fields, clauses -/
def fldB (f : Str) (is es : List Str) (K : PySem.W.Frag) : Bool := (is.all fun c => (He.Fa.glo c).ok K && ((He.Fa.cls c).ok K && (He.Fa.noat c f).ok K)) && es.all fun c => (He.Fa.glo c).ok K && (excIB K (He.ga K c) && (He.Fa.noat c f).ok K)
theorem fldOk (hd : HdOk fa fn tq exs K mg base) {f : Str} {is es : List Str} (h : fldB f is es K = true) : FldOk K (gxOf tq K mg) f is es := by
  obtain ⟨h1, h2⟩ := He.ba h
  refine ⟨fun c hc C g => ?_, fun c hc C g => ?_⟩
  · obtain ⟨q1, q2⟩ := He.ba (List.all_eq_true.mp h1 c hc)
    obtain ⟨q2, q3⟩ := He.ba q2
    rw [hd.gat q1 g]
    exact ⟨He.cls_ok q2, He.noat_ok q3⟩
  · obtain ⟨q1, q2⟩ := He.ba (List.all_eq_true.mp h2 c hc)
    obtain ⟨q2, q3⟩ := He.ba q2
    rw [hd.gat q1 g]
    exact ⟨excIB_ok q2, He.noat_ok q3⟩
def catB (y : Str) (l : List (Str × Bool)) (K : PySem.W.Frag) : Bool := (He.Fa.glo y).ok K && l.all fun e => (He.Fa.glo e.1).ok K && (He.Fa.exm e.1 y e.2).ok K
theorem catOk (hd : HdOk fa fn tq exs K mg base) {y : Str} {l : List (Str × Bool)} (h : catB y l K = true) : Catches K (gxOf tq K mg) (.ref (He.ga K y)) fun x => l.lookup x := fun x C b e g => by
  obtain ⟨_, h2⟩ := He.ba h
  have hm : (x, b) ∈ l := PySem.mem_of_lookup e
  obtain ⟨q1, q2⟩ := He.ba (List.all_eq_true.mp h2 _ hm)
  rw [hd.gat q1 g]
  exact He.exm_ok q2
theorem HdOk.cat (hd : HdOk fa fn tq exs K mg base) {y : Str} {l : List (Str × Bool)} (h : catB y l K = true) : mg y = some (.ref (He.ga K y)) := hd.gl y (He.ba h).1
/-! #### errors that are made -/
def xokB (x : Str) (fs : List Str) (K : PySem.W.Frag) : Bool := (He.Fa.glo x).ok K && (oexB K (He.ga K x) && (He.eqO (PySem.W.findIn K (.ref (He.ga K x)) "__init__") (some (some (.ref (He.fAd K (x, some "__init__"))))) && (decide (PySem.W.typeIn K (.ref (He.fAd K (x, some "__init__"))) = some (.type "function")) && fs.all fun f => (He.Fa.noat x f).ok K)))
theorem excOk {P : Program} {w : World} {j : Nat} {x : Str} {fs ps : List Str} {fd : FuncData} (hd : HdOk fa fn tq exs K mg base) (h : xokB x fs K = true) (F : FnOk P w K mg base (L2.CX P w) j (He.fAd K (x, some "__init__")) fd ps (spExi K fs)) (b : Binds K fd ps []) (few : fs.length ≤ 100) : ExcOk P w K mg base (gxOf tq K mg) j x fs := by
  obtain ⟨h1, h⟩ := He.ba h
  obtain ⟨h2, h⟩ := He.ba h
  obtain ⟨h3, h⟩ := He.ba h
  obtain ⟨h4, h5⟩ := He.ba h
  have hm := hd.gl x h1
  exact ⟨⟨He.ga K x, _, fd, ps, glOf_iff.mpr hm, hm, oexB_ok h2, He.eqO_ok h3, of_decide_eq_true h4, F, b, fun f hf => He.noat_ok (List.all_eq_true.mp h5 f hf)⟩, few⟩
end
/-- __init__(self, f): self.f = f -/
theorem init1 {P : Program} {w : World} {K : PySem.W.Frag} {mg : Str → Option Value} {base : Heap} {qual g : Str} {params : Arguments} {scope : Scope} {fI : Addr} {fd : FuncData} {p1 p2 p3 p4 : Pos} (Fu : FunD K "__init__" qual params [.Assign [.Attribute (.Name "self" p1) g p2] (.Name g p3) p4] scope [] [] fI fd) (Sc : FnScope ["self", g] ["self", g] scope)
    (d1 : (g == ("__debug__" : Str)) = false) (d2 : (g == ("__classdict__" : Str)) = false) : FnOk P w K mg base (L2.CX P w) 1 fI fd ["self", g] (spExi K [g]) := by
  have vis : ∀ x ∈ (["self", g] : List Str), Vis scope x := fun x hx => by
    rcases Sc.par x hx with q | q
    · exact .inl q
    · exact .inr (.inl q)
  refine Fu.ok Sc (fun vs H Q E h => ?_) (fun cdv A outer s H vs Q E hr h => ⟨_, pss_one (ps_ost (pe_var (i := 0) rfl (vis _ List.mem_cons_self) (by decide) (by decide)) (pe_var (i := 1) rfl (vis _ (List.mem_cons_of_mem _ List.mem_cons_self)) d1 d2)), ?_⟩)
  · obtain ⟨a, C, ws, rfl, hl, _⟩ := h
    simp [hl]
  · obtain ⟨a, C, ws, rfl, hl, _, T, nof, ea, go⟩ := h
    cases ws with
    | nil => cases hl
    | cons y ws =>
      cases ws with
      | cons _ _ => cases hl
      | nil => exact ⟨y, rfl, _, rfl, a, C, rfl, T, nof g List.mem_cons_self, .inl ⟨ea, fun dx n ne => go dx n ne⟩⟩
/-! #### the end -/
def noTab (H : Hp) : Hp := fun b => match H b with
  | some (.tbl _) => none
  | o => o
theorem noTab_le {H : Hp} : Le (noTab H) H := fun b o h => by
  unfold noTab at h
  split at h
  · cases h
  · exact h
theorem noTab_at {H : Hp} {b : Addr} {o : HO} (h : H b = some o) (n : ∀ ps, o ≠ .tbl ps) : noTab H b = some o := by
  unfold noTab
  split
  · rename_i ps e
    rw [e] at h
    exact absurd (Option.some.inj h).symm (n ps)
  · exact h
theorem scr_noTab {K : PySem.W.Frag} {H : Hp} {a : Addr} {xs : List V} (h : SqL K H a xs) : SqL K (noTab H) a xs := by
  rcases h with (h | ⟨o, h⟩) | h
  · exact .inl (.inl (noTab_at h fun _ z => by cases z))
  · exact .inl (.inr ⟨o, noTab_at h fun _ z => by cases z⟩)
  · exact .inr h
theorem fz_ints {G : Gx} {Φ : Hp} : ∀ ns : List Int, FzL G Φ (ns.map V.int) (ns.map D.int)
  | [] => .nil
  | i :: ns => .cons (.int i) (fz_ints ns)
theorem law_sp {G : Gx} {mf : Fn} {H : Hp} {a : Addr} {ns : List Int} (hT : LamX.Tabs G.T H) (hS : SqL G.K H a (ns.map V.int)) (pr : ∃ out, mf [.val (.scr (ns.map D.int))] = .ok (.val (.bl true), out)) : spM G 1 mf [.ref a] H (fun v _ => v = .bl true) fun _ _ _ => False := by
  obtain ⟨out, e⟩ := pr
  have fz : Fz G (noTab H) (.ref a) (.scr (ns.map D.int)) := .scr (scr_noTab hS) (fz_ints ns)
  refine ⟨noTab H, fun _ => none, [.val (.scr (ns.map D.int))], rfl, ⟨rfl, fun s hs => ?_, Le.refl _, noTab_le, (fun b o h _ _ => h), (fun b h => h), (fun b o h => .inl h), fun p hp => ?_, ?_, hT, fun b ps z => ?_⟩, fun s hs => ?_, ?_⟩
  · cases hs with
    | head => trivial
    | tail _ h => cases h
  · cases hp with
    | head => exact ⟨_, rfl, fz⟩
    | tail _ h => cases h
  · exact List.Pairwise.cons (fun _ h => nomatch h) List.Pairwise.nil
  · unfold noTab at z
    split at z
    · cases z
    · rename_i h
      exact h ps z
  · cases hs with
    | head => trivial
    | tail _ h => cases h
  · rw [e]
    intro v H' Φ' r
    obtain ⟨x, ex, q⟩ := r.hd
    cases ex
    cases q
    rfl
/-- the walk of a law from its facts -/
theorem law_walk {l : PySem.W.OpenLaw} {n k : Nat} {q : Program} {loose : List Str} {XP : (Str → Option Value) → Heap → Prop} {d : DefRec} {x : Str} {fa : List He.Fa} {fn : List He.DefD} {ts : List He.Tab} {tq : List Tq} {exs : PySem.W.Frag → List Bool} {mf : Fn} {dl : He.DefD} {nd : Nat} (il ig : Nat)
    (hn : l.most = some n) (hn2 : n ≤ sizeLine) (hdf : d.params.defaults = []) (hr : Room k callerA) (hil : fn[il]? = some dl) (hig : fa[ig]? = some (.glo d.name)) (hat : dl.at_ = (d.name, none)) (h1 : dl.dfl = []) (h2 : dl.kwd = [])
    (hb : ∀ (kV doc pm : Value) (an : Option Addr) (cdv ct : Value) (us : List Value), us.length = [x].length → bindArgs (PySem.W.fnOf dl.name dl.qual dl.params dl.body dl.scope .none kV doc pm an cdv ct) ⟨us, []⟩ = pure ([x].zip us))
    (F : ∀ (w : World) (K : PySem.W.Frag) (mg : Str → Option Value) (base : Heap) (fd : FuncData), HdOk fa fn tq exs K mg base → FunD K dl.name dl.qual dl.params dl.body dl.scope [] [] (He.ga K d.name) fd → FnOk l.prog w K mg base (L2.CX l.prog w) k (He.ga K d.name) fd [x] (spM (gxOf tq K mg) 1 mf))
    (pure_ : ∀ ns : List Int, ns.length ≤ n → (∀ z ∈ ns, Builtin.Int.intBits z ≤ 1048576) → ∃ out, mf [.val (.scr (ns.map D.int))] = .ok (.val (.bl true), out)) :
    PySem.W.WalkO q loose XP (He.hookX nd fa fn ts (tq.map (·.1)) fun K => (exs K).all id).says l.row.toRowW d [] (fun f vs => PySem.call f vs) := by
  refine LamX.walk_ofTsE (l := l) (n := n) (k := k) (x := x) (CX := fun w => L2.CX l.prog w) hn hn2 hdf hr ?_ (fun w H s e s' h => ?_)
  · intro w mg fa0 h Y G hmg
    obtain ⟨K, KX, c⟩ := Y
    have cd : He.SaysD fa fn K := c.t.d
    have gl : ∀ x, (He.Fa.glo x).ok K = true → mg x = some (.ref (He.ga K x)) := fun x hx => He.glo_ok KX G hx
    have e0 : fa0 = He.ga K d.name := by
      have := gl _ (cd.fact ig hig)
      rw [hmg] at this
      cases this; rfl
    subst e0
    obtain ⟨fd, Fu⟩ := cd.def_ il hil
    have e1 : dl.dvs K = [] := by unfold He.DefD.dvs; rw [h1]; rfl
    have e2 : dl.kws K = [] := by unfold He.DefD.kws; rw [h2]; rfl
    have e3 : He.fAd K dl.at_ = He.ga K d.name := by rw [hat]; rfl
    rw [e1, e2, e3] at Fu
    refine ⟨K, KX, fd, tq.map fun p => He.cT K p.1, spM (gxOf tq K mg) 1 mf, fun p hp => ?_, fun p hp => ?_, fun p hp => ?_, fun s u => Fu.bindsA hb s [u] rfl, fun H a ns hl hbits hT hS => law_sp (fun p hp => ?_) hS (pure_ ns hl hbits), fun base hK hN hTB => F w K mg base fd ⟨gl, fun x hx => He.free_ok KX G hx, fun f hf => cd.facts hf, fun d hd => cd.defs hd, c.more, fun p hp => hTB _ (List.mem_map.mpr ⟨p, hp, rfl⟩)⟩ Fu⟩
    · obtain ⟨r, hr', rfl⟩ := List.mem_map.mp hp
      exact c.empty _ (List.mem_map.mpr ⟨r, hr', rfl⟩)
    · obtain ⟨r, hr', rfl⟩ := List.mem_map.mp hp
      exact c.out _ (List.mem_map.mpr ⟨r, hr', rfl⟩)
    · obtain ⟨r, hr', rfl⟩ := List.mem_map.mp hp
      exact PySem.W.codeHd_of_K KX (c.hd _ (List.mem_map.mpr ⟨r, hr', rfl⟩))
    · obtain ⟨r, hr', rfl⟩ := List.mem_map.mp hp
      exact LamX.TabS.nil (hT _ (List.mem_map.mpr ⟨r, hr', rfl⟩))
  · obtain ⟨_, _, _, _, _, _, _, _, _, _, _, _, z⟩ := h
    exact z
end Mi

/-! ### M16: rules in short -/
namespace Mi
open PySem PySem.Spec PyProof.Rows L2
theorem unitsOk {k : Nat} {A : Around} (hr : Room k A) : A.units + 64 < cLine := by
  have := hr.un
  omega
section
variable {X : Cx} {F : Fm} {W : WX} {a b c : Expr} {ma mb mc : M S} {pos : Pos} {es : List Expr} {ms : M (List S)} {x : Str} {p : Pos}
theorem x_add (ft : Fits X F W) (ha : EM X F W a ma) (hb : EM X F W b mb) : EM X F W (.BinOp a .Add b pos) (eOp fAdd ma mb) := by
  obtain ⟨r, h1, h2⟩ := o_add (F := F) (X := X) ft.K
  exact em_op h1 h2 ha hb
theorem x_sub (ha : EM X F W a ma) (hb : EM X F W b mb) : EM X F W (.BinOp a .Sub b pos) (eOp fSub ma mb) := em_op op_sub o_sub ha hb
theorem x_mul (ha : EM X F W a ma) (hb : EM X F W b mb) : EM X F W (.BinOp a .Mult b pos) (eOp fMul ma mb) := em_op op_mulB o_mul ha hb
theorem x_div (ha : EM X F W a ma) (hb : EM X F W b mb) : EM X F W (.BinOp a .FloorDiv b pos) (eOp fDiv ma mb) := em_op op_fdivA o_div ha hb
theorem x_mod (ha : EM X F W a ma) (hb : EM X F W b mb) : EM X F W (.BinOp a .Mod b pos) (eOp fMod ma mb) := em_op op_modN o_mod ha hb
theorem x_pow (ha : EM X F W a ma) (hb : EM X F W b mb) : EM X F W (.BinOp a .Pow b pos) (eOp fPow ma mb) := em_op op_powW o_pow ha hb
theorem x_neg (ha : EM X F W a ma) : EM X F W (.UnaryOp .USub a pos) (eUn fNeg ma) := em_un un_neg o_neg ha
theorem x_eq (ft : Fits X F W) (hu : X.A.units + 64 < cLine) (ha : EM X F W a ma) (hb : EM X F W b mb) : EM X F W (.Compare a [.Eq] [b] pos) (eOp fEq ma mb) := em_cmp (op_eqD hu) (o_eq ft.K) ha hb (nomark b)
theorem x_ne (ft : Fits X F W) (hu : X.A.units + 64 < cLine) (ha : EM X F W a ma) (hb : EM X F W b mb) : EM X F W (.Compare a [.NotEq] [b] pos) (eOp fNe ma mb) := em_cmp (op_neD hu) (o_ne ft.K) ha hb (nomark b)
theorem x_lt (ha : EM X F W a ma) (hb : EM X F W b mb) : EM X F W (.Compare a [.Lt] [b] pos) (eOp fLt ma mb) := em_cmp op_lt o_cmp ha hb (nomark b)
theorem x_le (ha : EM X F W a ma) (hb : EM X F W b mb) : EM X F W (.Compare a [.LtE] [b] pos) (eOp fLe ma mb) := em_cmp op_le o_cmp ha hb (nomark b)
theorem x_gt (ha : EM X F W a ma) (hb : EM X F W b mb) : EM X F W (.Compare a [.Gt] [b] pos) (eOp fGt ma mb) := em_cmp op_gt o_cmp ha hb (nomark b)
theorem x_ge (ha : EM X F W a ma) (hb : EM X F W b mb) : EM X F W (.Compare a [.GtE] [b] pos) (eOp fGe ma mb) := em_cmp op_ge o_cmp ha hb (nomark b)
theorem x_is (ha : EM X F W a ma) (hb : EM X F W b mb) : EM X F W (.Compare a [.Is] [b] pos) (eOp fIsN ma mb) := em_cmp op_isN o_isN ha hb (nomark b)
theorem x_isnt (ha : EM X F W a ma) (hb : EM X F W b mb) : EM X F W (.Compare a [.IsNot] [b] pos) (eOp fNotN ma mb) := em_cmp op_notN o_notN ha hb (nomark b)
theorem t_eq (ft : Fits X F W) (hu : X.A.units + 64 < cLine) (ha : EM X F W a ma) (hb : EM X F W b mb) : BM X F W (.Compare a [.Eq] [b] pos) (bVal (eOp fEq ma mb)) := bm_cmp (op_eqD hu) (o_eq ft.K) ha hb (nomark b)
theorem t_ne (ft : Fits X F W) (hu : X.A.units + 64 < cLine) (ha : EM X F W a ma) (hb : EM X F W b mb) : BM X F W (.Compare a [.NotEq] [b] pos) (bVal (eOp fNe ma mb)) := bm_cmp (op_neD hu) (o_ne ft.K) ha hb (nomark b)
theorem t_lt (ha : EM X F W a ma) (hb : EM X F W b mb) : BM X F W (.Compare a [.Lt] [b] pos) (bVal (eOp fLt ma mb)) := bm_cmp op_lt o_cmp ha hb (nomark b)
theorem t_le (ha : EM X F W a ma) (hb : EM X F W b mb) : BM X F W (.Compare a [.LtE] [b] pos) (bVal (eOp fLe ma mb)) := bm_cmp op_le o_cmp ha hb (nomark b)
theorem t_gt (ha : EM X F W a ma) (hb : EM X F W b mb) : BM X F W (.Compare a [.Gt] [b] pos) (bVal (eOp fGt ma mb)) := bm_cmp op_gt o_cmp ha hb (nomark b)
theorem t_ge (ha : EM X F W a ma) (hb : EM X F W b mb) : BM X F W (.Compare a [.GtE] [b] pos) (bVal (eOp fGe ma mb)) := bm_cmp op_ge o_cmp ha hb (nomark b)
theorem t_is (ha : EM X F W a ma) (hb : EM X F W b mb) : BM X F W (.Compare a [.Is] [b] pos) (bVal (eOp fIsN ma mb)) := bm_cmp op_isN o_isN ha hb (nomark b)
theorem t_isnt (ha : EM X F W a ma) (hb : EM X F W b mb) : BM X F W (.Compare a [.IsNot] [b] pos) (bVal (eOp fNotN ma mb)) := bm_cmp op_notN o_notN ha hb (nomark b)
theorem x_ix (ft : Fits X F W) (ha : EM X F W a ma) (hb : EM X F W b mb) (hs : PlainIx b := by exact fun _ _ => rfl) : EM X F W (.Subscript a b pos) (eOp fIx ma mb) := em_ix ix_seq (o_ix ft.K) ha hb hs
theorem x_len (ft : Fits X F W) (hm : X.mg "len" = none) (ha : LM X F W [a] ms) (hg : Gl X "len" := by rfl) (he : starEach [a] X.env = (false, eval a X.env) :: starEach [] X.env := by rfl) : EM X F W (.Call (.Name "len" p) [a] [] pos) (eCB fLen ms) := em_callB call_len (c_len ft.K) hm ha boot_len hg (by decide) (by decide) he rfl
theorem x_abs (hm : X.mg "abs" = none) (ha : LM X F W [a] ms) (hg : Gl X "abs" := by rfl) (he : starEach [a] X.env = (false, eval a X.env) :: starEach [] X.env := by rfl) : EM X F W (.Call (.Name "abs" p) [a] [] pos) (eCB fAbs ms) := em_callB call_abs c_abs hm ha (by decide +kernel) hg (by decide) (by decide) he rfl
theorem x_int (hm : X.mg "int" = none) (ha : LM X F W [a] ms) (hg : Gl X "int" := by rfl) (he : starEach [a] X.env = (false, eval a X.env) :: starEach [] X.env := by rfl) : EM X F W (.Call (.Name "int" p) [a] [] pos) (eCB fInt ms) := em_callTy call_int1 c_int hm ha (by decide +kernel) hg (by decide) (by decide) he rfl
theorem x_isi {tb : IsT} (ft : Fits X F W) (ok : IsOk X.K F.G tb) (hm : X.mg "isinstance" = none) (ha : LM X F W [a, b] ms) (hg : Gl X "isinstance" := by rfl) (he : starEach [a, b] X.env = (false, eval a X.env) :: starEach [b] X.env := by rfl) (hpl : (backTo pos (starEach [b] X.env)).any (·.1) = false := by rfl) : EM X F W (.Call (.Name "isinstance" p) [a, b] [] pos) (eCB (fIsi tb) ms) := em_callB call_isE (c_isi ok ft.K) hm ha (by decide +kernel) hg (by decide) (by decide) he hpl
theorem x_list (ft : Fits X F W) (hm : X.mg "list" = none) (ha : LM X F W [a] ms) (hg : Gl X "list" := by rfl) (he : starEach [a] X.env = (false, eval a X.env) :: starEach [] X.env := by rfl) : EM X F W (.Call (.Name "list" p) [a] [] pos) (eCB fList ms) := em_callTy call_list_of (c_list ft.K) hm ha (by decide +kernel) hg (by decide) (by decide) he rfl
theorem x_tuple (ft : Fits X F W) (hm : X.mg "tuple" = none) (ha : LM X F W [a] ms) (hg : Gl X "tuple" := by rfl) (he : starEach [a] X.env = (false, eval a X.env) :: starEach [] X.env := by rfl) : EM X F W (.Call (.Name "tuple" p) [a] [] pos) (eCB fTuple ms) := em_callTy call_tuple_of (c_tuple ft.K) hm ha (by decide +kernel) hg (by decide) (by decide) he rfl
theorem x_all (ft : Fits X F W) (hm : X.mg "all" = none) (ha : LM X F W [a] ms) (hg : Gl X "all" := by rfl) (he : starEach [a] X.env = (false, eval a X.env) :: starEach [] X.env := by rfl) : EM X F W (.Call (.Name "all" p) [a] [] pos) (eCB fAll ms) := em_callB (cr_all ft.calm) (c_all ft.K) hm ha (by decide +kernel) hg (by decide) (by decide) he rfl
theorem x_any (ft : Fits X F W) (hm : X.mg "any" = none) (ha : LM X F W [a] ms) (hg : Gl X "any" := by rfl) (he : starEach [a] X.env = (false, eval a X.env) :: starEach [] X.env := by rfl) : EM X F W (.Call (.Name "any" p) [a] [] pos) (eCB fAny ms) := em_callB (cr_any ft.calm) (c_any ft.K) hm ha (by decide +kernel) hg (by decide) (by decide) he rfl
theorem x_sum (ft : Fits X F W) (hm : X.mg "sum" = none) (ha : LM X F W [a] ms) (hg : Gl X "sum" := by rfl) (he : starEach [a] X.env = (false, eval a X.env) :: starEach [] X.env := by rfl) : EM X F W (.Call (.Name "sum" p) [a] [] pos) (eCB fSum ms) := em_callB (cr_sum ft.calm) (c_sum ft.K) hm ha (by decide +kernel) hg (by decide) (by decide) he rfl
theorem x_bool (hm : X.mg "bool" = none) (ha : LM X F W [a] ms) (hg : Gl X "bool" := by rfl) (he : starEach [a] X.env = (false, eval a X.env) :: starEach [] X.env := by rfl) : EM X F W (.Call (.Name "bool" p) [a] [] pos) (eCB fBool ms) := em_callTy call_bool1 c_bool hm ha (by decide +kernel) hg (by decide) (by decide) he rfl
/-- a, b, c = x, y, z with plain local names -/
def sPar3 (i j l : Nat) (ms : M (List S)) : M Fl := M.bnd ms fun ss => match ss with
  | [s, t, u] => M.bnd (give s) fun s' => M.bnd (give t) fun t' => M.bnd (give u) fun u' => fun τ => .ok (.nx, ((τ.set i s').set j t').set l u')
  | _ => fun _ => .stuck
theorem sm_par3 (i j l : Nat) {x y z : Str} {px py pz pt : Pos} {kt k2 pt2} (hc : X.calm = true) (hN : X.N.Nodup) (ha : LM X F W [a, b, c] ms) (hi : X.N[i]? = some x := by rfl) (hj : X.N[j]? = some y := by rfl) (hl : X.N[l]? = some z := by rfl) (hij : i ≠ j := by decide) (hil : i ≠ l := by decide) (hjl : j ≠ l := by decide)
    (hx : X.env.scope.names.lookup x = some .local := by rfl) (hy : X.env.scope.names.lookup y = some .local := by rfl) (hz : X.env.scope.names.lookup z = some .local := by rfl)
    (hw : swappedStores [.Tuple [.Name x px, .Name y py, .Name z pz] kt pt] (.Tuple [a, b, c] k2 pt2) X.env = pure (some [x, y, z]) := by rfl)
    (hs : swapsWithSole [.Tuple [.Name x px, .Name y py, .Name z pz] kt pt] (.Tuple [a, b, c] k2 pt2) pos.line X.env = pure false := by rfl) :
    SM X F W (.Assign [.Tuple [.Name x px, .Name y py, .Name z pz] kt pt] (.Tuple [a, b, c] k2 pt2) pos) (sPar3 i j l ms) := PS.imp (ps_par3 hc hN hi hj hl hij hil hjl hx hy hz ha hw hs) fun D σ H ⟨Φ, τ, tm, qt, r, h⟩ => tl_go r h.bnd fun ss τ1 vs H1 Φ1 p ln r1 => by
  match ss, vs, ln with
  | [], _, _ => exact p.elim
  | [_], _, _ => exact p.elim
  | [_, _], _, _ => exact p.elim
  | _ :: _ :: _ :: _ :: _, _, _ => exact p.elim
  | [s, t, u], [], ln => cases ln
  | [s, t, u], [_], ln => cases ln
  | [s, t, u], [_, _], ln => cases ln
  | [s, t, u], _ :: _ :: _ :: _ :: _, ln => cases ln
  | [s, t, u], [v, w, y], _ =>
    refine ⟨v, w, y, rfl, ?_⟩
    obtain ⟨s', τ2, Φ2, n1, r2, k1⟩ := give_cases r1 (Wp.bnd p)
    have r2' : Rl F Φ2 H1 _ τ2 ((some w, t) :: (some v, s') :: (some y, u) :: tm) := r2.air (.perm (List.Perm.swap _ _ _))
    obtain ⟨t', τ3, Φ3, n2, r3, k2⟩ := give_cases r2' (Wp.bnd k1)
    have r3' : Rl F Φ3 H1 _ τ3 ((some y, u) :: (some w, t') :: (some v, s') :: tm) := r3.air (.perm (by
      show ((some w, t') :: (some v, s') :: (some y, u) :: tm).Perm ((some y, u) :: (some w, t') :: (some v, s') :: tm)
      exact (List.Perm.cons _ (List.Perm.swap _ _ _)).trans (List.Perm.swap _ _ _)))
    obtain ⟨u', τ4, Φ4, n3, r4, k3⟩ := give_cases r3' (Wp.bnd k2)
    have r5 : Rl F Φ4 H1 _ τ4 ((some v, s') :: (some w, t') :: (some y, u') :: tm) := r4.air (.perm (by
      show ((some y, u') :: (some w, t') :: (some v, s') :: tm).Perm ((some v, s') :: (some w, t') :: (some y, u') :: tm)
      exact ((List.Perm.swap _ _ _).trans (List.Perm.cons _ (List.Perm.swap _ _ _))).trans (List.Perm.swap _ _ _)))
    have r6 := r5.store n1 (fun p hp => by
      cases hp with
      | head => exact n2
      | tail _ h =>
        cases h with
        | head => exact n3
        | tail _ h => exact qt p h) i
    have r7 := r6.store n2 (fun p hp => by
      cases hp with
      | head => exact n3
      | tail _ h => exact qt p h) j
    exact k3 _ _ _ (r7.store n3 qt l)
end
end Mi

/-! ### M17: mirrors at slots, in steps -/
namespace Mi
open PySem PySem.Spec PyProof.Rows L2
section
variable {α β : Type} (τ : List S) (m n : M Fl) (ma mb : M S) (ms : M (List S)) (c t : M Bool) (i j k : Nat) (d : D) (s : S) (ss : List S) (f : D → D → Option S) (g1 : D → Option S) (g2 : List D → Option S) (g : MG) (gs : List D → M Unit) (mf : Fn)
theorem bnd_ap (m : M α) (f : α → M β) : M.bnd m f τ = match m τ with
  | .ok (a, τ') => f a τ'
  | .exc c fs τ' => .exc c fs τ'
  | .stuck => .stuck := rfl
theorem of_ap (o : Option α) : M.of o τ = match o with
  | some a => .ok (a, τ)
  | none => .stuck := by cases o <;> rfl
theorem seq_ap : sSeq m n τ = match m τ with
  | .ok (.nx, τ') => n τ'
  | .ok (.bk, τ') => .ok (.bk, τ')
  | .ok (.ct, τ') => .ok (.ct, τ')
  | .ok (.rt s, τ') => .ok (.rt s, τ')
  | .exc c fs τ' => .exc c fs τ'
  | .stuck => .stuck := by
  unfold sSeq M.bnd
  cases m τ with
  | stuck => rfl
  | exc _ _ _ => rfl
  | ok p =>
    obtain ⟨f, τ'⟩ := p
    cases f <;> rfl
theorem asg_ap : sAsg i ma τ = (M.bnd ma fun s => M.bnd (give s) fun s' => fun τ => .ok (.nx, τ.set i s')) τ := rfl
theorem ret_ap : sRet ma τ = (M.bnd ma fun s => M.bnd (give s) fun s' => M.ret (.rt s')) τ := rfl
theorem retN_ap : sRetN τ = .ok (.rt (.val .non), τ) := rfl
theorem sif_ap : sIf c m n τ = (M.bnd c fun b => if b = true then m else n) τ := rfl
theorem expr_ap : sExpr ma τ = (M.bnd ma fun _ => M.ret .nx) τ := rfl
theorem par_ap : sPar i j ms τ = (M.bnd ms fun ss => match ss with
  | [s, t] => M.bnd (give s) fun s' => M.bnd (give t) fun t' => fun τ => .ok (.nx, (τ.set i s').set j t')
  | _ => fun _ => .stuck) τ := rfl
theorem par3_ap : sPar3 i j k ms τ = (M.bnd ms fun ss => match ss with
  | [s, t, u] => M.bnd (give s) fun s' => M.bnd (give t) fun t' => M.bnd (give u) fun u' => fun τ => .ok (.nx, ((τ.set i s').set j t').set k u')
  | _ => fun _ => .stuck) τ := rfl
theorem asgT_ap : sAsgT g ma τ = (M.bnd ma fun s => M.bnd (give s) fun s' => M.bnd (g s') fun _ => M.ret .nx) τ := rfl
theorem nil_ap : sNil τ = .ok (.nx, τ) := rfl
theorem brk_ap : sBreak τ = .ok (.bk, τ) := rfl
theorem cnt_ap : sCont τ = .ok (.ct, τ) := rfl
theorem give_val : give (.val d) τ = .ok (.val d, τ) := rfl
theorem give_own (o : O) : give (.own o) τ = .ok (.own o, τ) := rfl
theorem give_ali : give (.ali i) τ = (M.bnd (take (.ali i)) fun d => M.ret (.val d)) τ := rfl
theorem take_val : take (.val d) τ = .ok (d, τ) := rfl
theorem take_own (o : O) : take (.own o) τ = .ok (o.frz, τ) := rfl
theorem take_ali : take (.ali i) τ = match τ[i]? with
    | some (.val d) => .ok (d, τ)
    | some (.own o) => .ok (o.frz, τ.set i (.val o.frz))
    | _ => .stuck := rfl
theorem ta_nil : takeAll [] τ = .ok ([], τ) := rfl
theorem ta_cons : takeAll (s :: ss) τ = (M.bnd (take s) fun d => M.bnd (takeAll ss) fun ds => M.ret (d :: ds)) τ := rfl
theorem pk_val : peek (.val d) τ = .ok (d, τ) := rfl
theorem pk_own (o : O) : peek (.own o) τ = .ok (o.frz, τ) := rfl
theorem pk_ali : peek (.ali i) τ = match τ[i]? with
    | some (.val d) => .ok (d, τ)
    | some (.own o) => .ok (o.frz, τ)
    | some (.lent _ o) => .ok (o.frz, τ)
    | _ => .stuck := by
  unfold peek
  show (match (match τ[i]? with
    | some (.val d) => some d
    | some (.own o) => some o.frz
    | some (.lent _ o) => some o.frz
    | _ => none : Option D) with
    | some d => R.ok (d, τ)
    | none => .stuck) = _
  generalize τ[i]? = o
  cases o with
  | none => rfl
  | some s => cases s <;> rfl
theorem pa_nil' : peekAll [] τ = .ok ([], τ) := rfl
theorem pa_cons' : peekAll (s :: ss) τ = (M.bnd (peek s) fun d => M.bnd (peekAll ss) fun ds => M.ret (d :: ds)) τ := rfl
theorem var_ap : eVar i τ = match τ[i]? with
  | some (.val d) => .ok (.val d, τ)
  | some (.own _) => .ok (.ali i, τ)
  | some (.lent _ _) => .ok (.ali i, τ)
  | _ => .stuck := rfl
theorem lit_ap : eLit d τ = .ok (.val d, τ) := rfl
theorem op_ap : eOp f ma mb τ = (M.bnd ma fun s => M.bnd mb fun t => M.bnd (peek s) fun d => M.bnd (peek t) fun e => M.of (f d e)) τ := rfl
theorem un_ap : eUn g1 ma τ = (M.bnd ma fun s => M.bnd (peek s) fun d => M.of (g1 d)) τ := rfl
theorem cb_ap : eCB g2 ms τ = (M.bnd ms fun ss => M.bnd (peekAll ss) fun ds => M.of (g2 ds)) τ := rfl
theorem lc_ap : lCons ma ms τ = (M.bnd ma fun s => M.bnd ms fun ss => M.ret (s :: ss)) τ := rfl
theorem ln_ap : lNil τ = .ok ([], τ) := rfl
theorem tup_ap : eTup ms τ = (M.bnd ms fun ss => M.bnd (takeAll ss) fun ds => M.bnd (M.of (fitL ds.length)) fun _ => M.ret (.val (.tup ds))) τ := rfl
theorem lst_ap : eLst ms τ = (M.bnd ms fun ss => M.bnd (takeAll ss) fun ds => M.bnd (M.of (fitL ds.length)) fun _ => M.ret (.own (.lst ds))) τ := rfl
theorem cv_ap : eCallV mf ms τ = (M.bnd ms fun ss => M.bnd (takeAll ss) fun ds => fun τ => match mf (ds.map S.val) with
  | .ok (r, _) => .ok (r, τ)
  | .exc c fs _ => .exc c fs τ
  | .stuck => .stuck) τ := rfl
theorem ck_ap (ix : List Nat) : eCallK ix k mf ms τ = (M.bnd ms fun ss => M.bnd (takeAll ss) fun ds => fun τ => if ds.length = k then (match mf ((Mi.pick .non ix ds).map S.val) with
  | .ok (r, _) => .ok (r, τ)
  | .exc c fs _ => .exc c fs τ
  | .stuck => .stuck) else .stuck) τ := rfl
theorem cl_ap : eCallL mf ms τ = (M.bnd ms fun ss => match ss with
  | .ali k :: rest => M.bnd (takeAll rest) fun ds => fun τ => match τ[k]? with
    | some (.own o) => lendTo mf k o .own ds τ
    | some (.lent j o) => lendTo mf k o (.lent j) ds τ
    | _ => .stuck
  | _ => fun _ => .stuck) τ := rfl
theorem and_ap : eAnd ma mb τ = (M.bnd ma fun s => M.bnd (M.of (asB s)) fun b => if b = true then mb else M.ret (.val (.bl false))) τ := rfl
theorem or_ap : eOr ma mb τ = (M.bnd ma fun s => M.bnd (M.of (asB s)) fun b => if b = true then M.ret (.val (.bl true)) else mb) τ := rfl
theorem not_ap : eNot ma τ = (M.bnd ma fun s => M.bnd (M.of (asB s)) fun b => M.ret (.val (.bl !b))) τ := rfl
theorem eif_ap : eIf c ma mb τ = (M.bnd c fun b => if b = true then ma else mb) τ := rfl
theorem bval_ap : bVal ma τ = (M.bnd ma fun s => M.of (asB s)) τ := rfl
theorem bnot_ap : bNot c τ = (M.bnd c fun b => M.ret (!b)) τ := rfl
theorem band_ap : bAnd c t τ = (M.bnd c fun b => if b = true then t else M.ret false) τ := rfl
theorem bor_ap : bOr c t τ = (M.bnd c fun b => if b = true then M.ret true else t) τ := rfl
theorem gnam_ap : gNam i s τ = .ok ((), τ.set i s) := rfl
theorem gtup_ap : gTupM k gs s τ = (M.bnd (peek s) fun d => M.bnd (M.of (unpk k d)) gs) τ := rfl
theorem gend_ap : gsEnd [] τ = .ok ((), τ) := rfl
theorem gcons_ap (ds : List D) : gsCons g gs (d :: ds) τ = (M.bnd (g (.val d)) fun _ => gs ds) τ := rfl
theorem rng_ap (f : List D → Option (List D)) : iRng f ms τ = (M.bnd ms fun ss => M.bnd (peekAll ss) fun ds => M.bnd (M.of (f ds)) fun its => M.ret (its, noPin)) τ := rfl
theorem for_ap (mi : M (List D × Pin)) : sFor mi g m τ = (M.bnd mi fun p => loopM p.2 g m p.1) τ := rfl
theorem loop_nil (p : Pin) : loopM p g m [] τ = .ok (.nx, τ) := rfl
open Classical in
theorem chk_no : chk noPin τ = .ok ((), τ) := by unfold chk noPin; simp
theorem loop_cons (ds : List D) : loopM noPin g m (d :: ds) τ = match g (.val d) τ with
  | .ok (_, τ1) => (match m τ1 with
    | .ok (.nx, τ2) => loopM noPin g m ds τ2
    | .ok (.ct, τ2) => loopM noPin g m ds τ2
    | .ok (.bk, τ2) => .ok (.nx, τ2)
    | .ok (.rt s, τ2) => .ok (.rt s, τ2)
    | .exc c fs τ' => .exc c fs τ'
    | .stuck => .stuck)
  | .exc c fs τ' => .exc c fs τ'
  | .stuck => .stuck := by
  show (M.bnd (g (.val d)) fun _ => M.bnd m fun f => match f with
    | .nx => M.bnd (chk noPin) fun _ => loopM noPin g m ds
    | .ct => M.bnd (chk noPin) fun _ => loopM noPin g m ds
    | .bk => M.ret .nx
    | .rt s => M.ret (.rt s)) τ = _
  unfold M.bnd
  cases g (.val d) τ with
  | stuck => rfl
  | exc _ _ _ => rfl
  | ok p =>
    obtain ⟨u, τ1⟩ := p
    simp only
    cases m τ1 with
    | stuck => rfl
    | exc _ _ _ => rfl
    | ok q =>
      obtain ⟨f, τ2⟩ := q
      cases f <;> simp only [chk_no, M.ret]
theorem setIx_ap (mv mo mi : M S) : sSetIx mv mo mi τ = (M.bnd mv fun s => M.bnd (take s) fun d => M.bnd mo fun so => M.bnd mi fun si => M.bnd (peek si) fun i => match so with
  | .ali k => M.bnd (onL k (setD i d)) fun _ => M.ret .nx
  | _ => fun _ => .stuck) τ := rfl
theorem run_ap (np nn : Nat) : runFn np nn m ss = if ¬ ss.length = np then .stuck else match m (ss ++ List.replicate (nn - ss.length) .non) with
  | .ok (f, τ) => (match f with
    | .nx => (match back ss τ with
      | some ss' => .ok (.val .non, ss')
      | none => .stuck)
    | .rt s => if retS s = true then (match back ss τ with
      | some ss' => .ok (s, ss')
      | none => .stuck) else .stuck
    | _ => .stuck)
  | .exc c fs τ => (match back ss τ with
    | some ss' => .exc c fs ss'
    | none => .stuck)
  | .stuck => .stuck := rfl
theorem comp_nil (own : List Nat) (p : Pin) (acc : List D) : compM own p g c ma [] acc τ = .ok (acc, τ) := rfl
theorem comp_cons (own : List Nat) (ds acc : List D) : compM own noPin g c ma (d :: ds) acc τ = match g (.val d) τ with
  | .ok (_, τ1) => (match c τ1 with
    | .ok (true, τ2) => (match (M.bnd ma fun s => M.bnd (take s) fun y => M.bnd (M.of (fitL (acc.length + 1))) fun _ => M.ret y) τ2 with
      | .ok (y, τ3) => compM own noPin g c ma ds (acc ++ [y]) (wipeT own τ3)
      | .exc c fs τ' => .exc c fs τ'
      | .stuck => .stuck)
    | .ok (false, τ2) => compM own noPin g c ma ds acc (wipeT own τ2)
    | .exc c fs τ' => .exc c fs τ'
    | .stuck => .stuck)
  | .exc c fs τ' => .exc c fs τ'
  | .stuck => .stuck := by
  rw [compM]
  unfold M.bnd
  cases g (.val d) τ with
  | stuck => rfl
  | exc _ _ _ => rfl
  | ok p =>
    obtain ⟨u, τ1⟩ := p
    simp only
    cases c τ1 with
    | stuck => rfl
    | exc _ _ _ => rfl
    | ok q =>
      obtain ⟨b, τ2⟩ := q
      cases b with
      | false => simp only [chk_no, wip, Bool.false_eq_true, if_false]
      | true =>
        simp only [if_true]
        cases ma τ2 with
        | stuck => rfl
        | exc _ _ _ => rfl
        | ok r =>
          obtain ⟨s, τ3⟩ := r
          simp only
          cases take s τ3 with
          | stuck => rfl
          | exc _ _ _ => rfl
          | ok v =>
            obtain ⟨y, τ4⟩ := v
            simp only [of_ap]
            cases fitL (acc.length + 1) with
            | none => rfl
            | some _ => simp only [chk_no, wip, M.ret]
theorem ecomp_ap (own : List Nat) (mi : M (List D × Pin)) {its : List D} {τ1 : List S} (h : mi τ = .ok ((its, noPin), τ1)) (hp : own.all (fun i => plainS (τ1.getD i .non)) = true) : eComp own mi g c ma τ = match compM own noPin g c ma its [] (wipeT own τ1) with
  | .ok (ds, τ2) => if realOk (wipeT own τ1) τ2 = true then .ok (.own (.lst ds), restT own τ1 τ2) else .stuck
  | _ => .stuck := by
  unfold eComp M.bnd
  simp only [h, hp, if_true, chk_no] <;> (cases compM own noPin g c ma its [] (wipeT own τ1) <;> rfl)
theorem byes_ap : bYes τ = .ok (true, τ) := rfl
/-- a comprehension that only reads -/
theorem compM_map {own : List Nat} {h : D → D} {τ0 : List S} : ∀ (xs acc : List D), (∀ x ∈ xs, ∃ τ1 τ2 s τ3, g (.val x) τ0 = .ok ((), τ1) ∧ ma τ1 = .ok (s, τ2) ∧ take s τ2 = .ok (h x, τ3) ∧ wipeT own τ3 = τ0) → acc.length + xs.length ≤ 1000 → compM own noPin g bYes ma xs acc τ0 = .ok (acc ++ xs.map h, τ0)
  | [], acc, _, _ => by rw [comp_nil, List.map_nil, List.append_nil]
  | x :: xs, acc, hx, hl => by
    obtain ⟨τ1, τ2, s, τ3, e1, e2, e3, e4⟩ := hx x List.mem_cons_self
    have hf : fitL (acc.length + 1) = some () := by
      unfold fitL
      rw [if_pos]
      rw [List.length_cons] at hl
      rw [sizeLine_eq]
      omega
    rw [comp_cons]
    simp only [e1, byes_ap, bnd_ap, e2, e3, of_ap, hf, M.ret, e4]
    rw [compM_map xs (acc ++ [h x]) (fun y hy => hx y (List.mem_cons_of_mem _ hy)) (by rw [List.length_append, List.length_cons, List.length_nil]; rw [List.length_cons] at hl; omega)]
    rw [List.map_cons, List.append_assoc]
    rfl
theorem raise_ap (x : Str) (fs : List Str) : sRaise x fs ms τ = (M.bnd ms fun ss => M.bnd (takeAll ss) fun ds => fun τ => if ds.length = fs.length then .exc x (fs.zip ds).reverse τ else .stuck) τ := rfl
theorem try_ap (mt : Str → Option Bool) : sTry i mt m n τ = match m τ with
  | .exc c fs τ1 => (match mt c with
    | some true => (match n (τ1.set i (.val (.exc c fs))) with
      | .ok (f, τ2) => if okFl f = true then .ok (f, τ2.set i .non) else .stuck
      | _ => .stuck)
    | some false => .exc c fs τ1
    | none => .stuck)
  | r => r := rfl
theorem seqi_own (o : O) (h : ma τ = .ok (.own o, τ)) : iSeq ma τ = match items o.frz with
  | some xs => .ok ((xs, noPin), τ)
  | none => .stuck := by
  simp only [iSeq, bnd_ap, h, take_own, of_ap]
  cases items o.frz <;> rfl
theorem seqi_val (h : ma τ = .ok (.val d, τ)) : iSeq ma τ = match items d with
  | some xs => .ok ((xs, noPin), τ)
  | none => .stuck := by
  simp only [iSeq, bnd_ap, h, take_val, of_ap]
  cases items d <;> rfl
theorem seqi_var (h : τ[i]? = some (.val d)) : iSeq (eVar i) τ = match items d with
  | some xs => .ok ((xs, noPin), τ)
  | none => .stuck := seqi_val (τ := τ) (ma := eVar i) (d := d) (by simp only [var_ap, h])
end
end Mi

namespace K04
open PySem PySem.Spec PyProof.Rows L2 Mi

def top (i : Nat) : Stmt := PySem.Challenge.pw_farseen_k04_ratios_in_lowest_terms.main.body.getD i (.Pass ⟨0, 0, 0, 0⟩)
abbrev s_SeenError : Stmt := top 1
abbrev s_BadRatio : Stmt := top 2
abbrev s_is_integer : Stmt := top 4
abbrev s_are_integers : Stmt := top 5
abbrev s_is_ratio : Stmt := top 6
abbrev s_need_ratio : Stmt := top 7
abbrev s_measure : Stmt := top 8
abbrev s_in_lowest : Stmt := top 9
abbrev s_added : Stmt := top 11
abbrev s_taken : Stmt := top 12
abbrev s_multiplied : Stmt := top 13
abbrev s_divided : Stmt := top 14
abbrev s_is_less : Stmt := top 15
abbrev s_need_two : Stmt := top 16
abbrev s_plus : Stmt := top 17
abbrev s_minus : Stmt := top 18
abbrev s_times : Stmt := top 19
abbrev s_over : Stmt := top 20
abbrev s_compared : Stmt := top 21
abbrev s__law_vat : Stmt := top 23
abbrev s__law_dip : Stmt := top 24
abbrev s__law_pick : Stmt := top 25
abbrev s__law_shared : Stmt := top 26
abbrev s__law_ratio : Stmt := top 27
abbrev s__law_is : Stmt := top 28
abbrev s__law_sums_right : Stmt := top 29
abbrev s__law_wide_right : Stmt := top 30
abbrev s__law_order_right : Stmt := top 31
abbrev s__law_heard : Stmt := top 32
abbrev s__law_refused_right : Stmt := top 33
abbrev s_law : Stmt := top 34
abbrev s_BadRatio_init : Stmt := (C8.clsBody s_BadRatio).getD 0 (.Pass ⟨0, 0, 0, 0⟩)
/-! what isinstance tells -/
def isL0 : IsL := [(.bt "NoneType", .bt "int", false), (.bt "NoneType", .bt "bool", false), (.bt "NoneType", .bt "list", false), (.bt "NoneType", .bt "tuple", false), (.bt "NoneType", .own "BadRatio", false), (.bt "bool", .bt "int", true), (.bt "bool", .bt "bool", true), (.bt "bool", .bt "list", false), (.bt "bool", .bt "tuple", false), (.bt "bool", .own "BadRatio", false), (.bt "int", .bt "int", true), (.bt "int", .bt "bool", false), (.bt "int", .bt "list", false), (.bt "int", .bt "tuple", false), (.bt "int", .own "BadRatio", false), (.bt "str", .bt "int", false), (.bt "str", .bt "bool", false), (.bt "str", .bt "list", false), (.bt "str", .bt "tuple", false), (.bt "str", .own "BadRatio", false), (.bt "list", .bt "int", false), (.bt "list", .bt "bool", false), (.bt "list", .bt "list", true), (.bt "list", .bt "tuple", false), (.bt "list", .own "BadRatio", false), (.bt "tuple", .bt "int", false), (.bt "tuple", .bt "bool", false), (.bt "tuple", .bt "list", false), (.bt "tuple", .bt "tuple", true), (.bt "tuple", .own "BadRatio", false)]
def isL1 : IsL := [(.bt "dict", .bt "int", false), (.bt "dict", .bt "bool", false), (.bt "dict", .bt "list", false), (.bt "dict", .bt "tuple", false), (.bt "dict", .own "BadRatio", false), (.exc "BadRatio", .bt "int", false), (.exc "BadRatio", .bt "bool", false), (.exc "BadRatio", .bt "list", false), (.exc "BadRatio", .bt "tuple", false), (.exc "BadRatio", .own "BadRatio", true)]
def isL : IsL := isL0 ++ isL1
def isT : IsT := isTb isL
def es_part : List Str := ["BadRatio"]
def cl_SeenError : List (Str × Bool) := [("BadRatio", true)]
def ct_SeenError : Str → Option Bool := fun x => cl_SeenError.lookup x
noncomputable section
/-! the mirrors -/
def m_is_integer : M Fl := sRet (eAnd (eCB (fIsi isT) (lCons (eVar 0) (lCons (eLit (.ty "int")) (lNil)))) (eNot (eCB (fIsi isT) (lCons (eVar 0) (lCons (eLit (.ty "bool")) (lNil))))))
def f_is_integer : Fn := runFn 1 1 m_is_integer
def m_are_integers : M Fl := sRet (eAnd (eCB (fIsi isT) (lCons (eVar 0) (lCons (eTup (lCons (eLit (.ty "list")) (lCons (eLit (.ty "tuple")) (lNil)))) (lNil)))) (eCB fAll (lCons (eComp [1] (iSeq (eVar 0)) (gNam 1) (bYes) (eCallV f_is_integer (lCons (eVar 1) (lNil)))) (lNil))))
def f_are_integers : Fn := runFn 1 2 m_are_integers
def m_measure : M Fl := sSeq (sAsg 1 (eLit (.int 0))) (sSeq (sFor (iSeq (eVar 0)) (gNam 2) (sSeq (sPar 3 4 (lCons (eVar 1) (lCons (eCB fAbs (lCons (eVar 2) (lNil))) (lNil)))) (sSeq (sWhile (bVal (eOp fNe (eVar 4) (eLit (.int 0)))) (sPar 3 4 (lCons (eVar 4) (lCons (eOp fMod (eVar 3) (eVar 4)) (lNil))))) (sAsg 1 (eVar 3))))) (sRet (eVar 1)))
def f_measure : Fn := runFn 1 5 m_measure
def m_is_ratio : M Fl := sSeq (sIf (bOr (bNot (bVal (eCallV f_are_integers (lCons (eVar 0) (lNil))))) (bVal (eOp fNe (eCB fLen (lCons (eVar 0) (lNil))) (eLit (.int 2))))) (sRet (eLit (.bl false))) (sNil)) (sRet (eAnd (eOp fGt (eOp fIx (eVar 0) (eLit (.int 1))) (eLit (.int 0))) (eOp fEq (eCallV f_measure (lCons (eVar 0) (lNil))) (eLit (.int 1)))))
def f_is_ratio : Fn := runFn 1 1 m_is_ratio
def m_need_ratio : M Fl := sIf (bNot (bVal (eCallV f_is_ratio (lCons (eVar 0) (lNil))))) (sRaise "BadRatio" ["part"] (lCons (eVar 1) (lNil))) (sNil)
def f_need_ratio : Fn := runFn 2 2 m_need_ratio
def m_in_lowest : M Fl := sSeq (sAsg 2 (eIf (bVal (eOp fGt (eVar 1) (eLit (.int 0)))) (eCallV f_measure (lCons (eLst (lCons (eVar 0) (lCons (eVar 1) (lNil)))) (lNil))) (eUn fNeg (eCallV f_measure (lCons (eLst (lCons (eVar 0) (lCons (eVar 1) (lNil)))) (lNil)))))) (sRet (eTup (lCons (eOp fDiv (eVar 0) (eVar 2)) (lCons (eOp fDiv (eVar 1) (eVar 2)) (lNil)))))
def f_in_lowest : Fn := runFn 2 3 m_in_lowest
def m_added : M Fl := sRet (eCallV f_in_lowest (lCons (eOp fAdd (eOp fMul (eOp fIx (eVar 0) (eLit (.int 0))) (eOp fIx (eVar 1) (eLit (.int 1)))) (eOp fMul (eOp fIx (eVar 1) (eLit (.int 0))) (eOp fIx (eVar 0) (eLit (.int 1))))) (lCons (eOp fMul (eOp fIx (eVar 0) (eLit (.int 1))) (eOp fIx (eVar 1) (eLit (.int 1)))) (lNil))))
def f_added : Fn := runFn 2 2 m_added
def m_taken : M Fl := sRet (eCallV f_in_lowest (lCons (eOp fSub (eOp fMul (eOp fIx (eVar 0) (eLit (.int 0))) (eOp fIx (eVar 1) (eLit (.int 1)))) (eOp fMul (eOp fIx (eVar 1) (eLit (.int 0))) (eOp fIx (eVar 0) (eLit (.int 1))))) (lCons (eOp fMul (eOp fIx (eVar 0) (eLit (.int 1))) (eOp fIx (eVar 1) (eLit (.int 1)))) (lNil))))
def f_taken : Fn := runFn 2 2 m_taken
def m_multiplied : M Fl := sRet (eCallV f_in_lowest (lCons (eOp fMul (eOp fIx (eVar 0) (eLit (.int 0))) (eOp fIx (eVar 1) (eLit (.int 0)))) (lCons (eOp fMul (eOp fIx (eVar 0) (eLit (.int 1))) (eOp fIx (eVar 1) (eLit (.int 1)))) (lNil))))
def f_multiplied : Fn := runFn 2 2 m_multiplied
def m_divided : M Fl := sRet (eCallV f_in_lowest (lCons (eOp fMul (eOp fIx (eVar 0) (eLit (.int 0))) (eOp fIx (eVar 1) (eLit (.int 1)))) (lCons (eOp fMul (eOp fIx (eVar 0) (eLit (.int 1))) (eOp fIx (eVar 1) (eLit (.int 0)))) (lNil))))
def f_divided : Fn := runFn 2 2 m_divided
def m_is_less : M Fl := sRet (eOp fLt (eOp fMul (eOp fIx (eVar 0) (eLit (.int 0))) (eOp fIx (eVar 1) (eLit (.int 1)))) (eOp fMul (eOp fIx (eVar 1) (eLit (.int 0))) (eOp fIx (eVar 0) (eLit (.int 1)))))
def f_is_less : Fn := runFn 2 2 m_is_less
def m_need_two : M Fl := sSeq (sExpr (eCallV f_need_ratio (lCons (eVar 0) (lCons (eLit (.str "one")) (lNil))))) (sExpr (eCallV f_need_ratio (lCons (eVar 1) (lCons (eLit (.str "other")) (lNil)))))
def f_need_two : Fn := runFn 2 2 m_need_two
def m_plus : M Fl := sSeq (sExpr (eCallV f_need_two (lCons (eVar 0) (lCons (eVar 1) (lNil))))) (sRet (eCallV f_added (lCons (eVar 0) (lCons (eVar 1) (lNil)))))
def f_plus : Fn := runFn 2 2 m_plus
def m_minus : M Fl := sSeq (sExpr (eCallV f_need_two (lCons (eVar 0) (lCons (eVar 1) (lNil))))) (sRet (eCallV f_taken (lCons (eVar 0) (lCons (eVar 1) (lNil)))))
def f_minus : Fn := runFn 2 2 m_minus
def m_times : M Fl := sSeq (sExpr (eCallV f_need_two (lCons (eVar 0) (lCons (eVar 1) (lNil))))) (sRet (eCallV f_multiplied (lCons (eVar 0) (lCons (eVar 1) (lNil)))))
def f_times : Fn := runFn 2 2 m_times
def m_over : M Fl := sSeq (sExpr (eCallV f_need_two (lCons (eVar 0) (lCons (eVar 1) (lNil))))) (sSeq (sIf (bVal (eOp fEq (eOp fIx (eVar 1) (eLit (.int 0))) (eLit (.int 0)))) (sRaise "BadRatio" ["part"] (lCons (eLit (.str "other")) (lNil))) (sNil)) (sRet (eCallV f_divided (lCons (eVar 0) (lCons (eVar 1) (lNil))))))
def f_over : Fn := runFn 2 2 m_over
def m_compared : M Fl := sSeq (sExpr (eCallV f_need_two (lCons (eVar 0) (lCons (eVar 1) (lNil))))) (sRet (eOp fSub (eCB fInt (lCons (eCallV f_is_less (lCons (eVar 1) (lCons (eVar 0) (lNil)))) (lNil))) (eCB fInt (lCons (eCallV f_is_less (lCons (eVar 0) (lCons (eVar 1) (lNil)))) (lNil)))))
def f_compared : Fn := runFn 2 2 m_compared
def m__law_vat : M Fl := sRet (eLst (lCons (eComp [1] (iSeq (eSl (eVar 0) (pNone) (pSome (eLit (.int 60))))) (gNam 1) (bYes) (eCB fInt (lCons (eVar 1) (lNil)))) (lCons (eLit (.int 0)) (lCons (eLit (.int 0)) (lNil)))))
def f__law_vat : Fn := runFn 1 2 m__law_vat
def m__law_dip : M Fl := sSeq (sIf (bVal (eOp fGt (eOp fIx (eVar 0) (eLit (.int 2))) (eLit (.int 0)))) (sSeq (sAsg 2 (eOp fIx (eVar 0) (eLit (.int 2)))) (sSeq (sSetIx (eOp fDiv (eCB fInt (lCons (eVar 2) (lNil))) (eVar 1)) (eVar 0) (eLit (.int 2))) (sRet (eOp fMod (eCB fInt (lCons (eVar 2) (lNil))) (eVar 1))))) (sNil)) (sSeq (sPar 3 4 (lCons (eOp fIx (eVar 0) (eLit (.int 0))) (lCons (eOp fIx (eVar 0) (eLit (.int 1))) (lNil)))) (sSeq (sSetIx (eOp fAdd (eVar 4) (eLit (.int 1))) (eVar 0) (eLit (.int 1))) (sSeq (sAsg 5 (eOp fAdd (eOp fMul (eLit (.int 41017)) (eVar 4)) (eLit (.int 2011)))) (sSeq (sIf (bVal (eOp fNe (eVar 3) (eLst (lNil)))) (sAsg 5 (eOp fIx (eVar 3) (eOp fMod (eCB fInt (lCons (eVar 4) (lNil))) (eCB fLen (lCons (eVar 3) (lNil)))))) (sNil)) (sSeq (sIf (bAnd (bVal (eOp fLt (eVar 4) (eCB fLen (lCons (eVar 3) (lNil))))) (bVal (eOp fGe (eCB fAbs (lCons (eVar 5) (lNil))) (eOp fPow (eLit (.int 10)) (eLit (.int 18)))))) (sSeq (sAsg 2 (eOp fAdd (eOp fMul (eLit (.int 2)) (eOp fSub (eCB fAbs (lCons (eVar 5) (lNil))) (eOp fPow (eLit (.int 10)) (eLit (.int 18))))) (eCB fInt (lCons (eOp fLt (eVar 5) (eLit (.int 0))) (lNil))))) (sSeq (sSetIx (eOp fDiv (eCB fInt (lCons (eVar 2) (lNil))) (eVar 1)) (eVar 0) (eLit (.int 2))) (sRet (eOp fMod (eCB fInt (lCons (eVar 2) (lNil))) (eVar 1))))) (sNil)) (sSeq (sAsg 6 (eOp fMod (eCB fInt (lCons (eOp fPow (eOp fAdd (eOp fAdd (eOp fMod (eCB fInt (lCons (eVar 5) (lNil))) (eLit (.int 2147483587))) (eOp fMul (eLit (.int 31019)) (eVar 4))) (eLit (.int 2011))) (eLit (.int 5))) (lNil))) (eLit (.int 2147483549)))) (sSeq (sAsg 6 (eOp fMod (eCB fInt (lCons (eOp fPow (eOp fAdd (eOp fAdd (eOp fMul (eVar 6) (eOp fAdd (eOp fMul (eLit (.int 2)) (eVar 4)) (eLit (.int 1013)))) (eOp fMul (eOp fMul (eLit (.int 53017)) (eVar 4)) (eVar 4))) (eLit (.int 6011))) (eLit (.int 3))) (lNil))) (eLit (.int 2147483629)))) (sRet (eOp fMod (eCB fInt (lCons (eOp fDiv (eVar 6) (eLit (.int 64))) (lNil))) (eVar 1))))))))))
def f__law_dip : Fn := runFn 2 7 m__law_dip
def m__law_pick : M Fl := sRet (eOp fIx (eVar 1) (eCallL f__law_dip (lCons (eVar 0) (lCons (eCB fLen (lCons (eVar 1) (lNil))) (lNil)))))
def f__law_pick : Fn := runFn 2 2 m__law_pick
def m__law_shared : M Fl := sSeq (sPar 2 3 (lCons (eCB fAbs (lCons (eVar 0) (lNil))) (lCons (eCB fAbs (lCons (eVar 1) (lNil))) (lNil)))) (sSeq (sFor (iRng ranged1 (lCons (eLit (.int 9000)) (lNil))) (gNam 4) (sSeq (sIf (bVal (eOp fEq (eVar 2) (eLit (.int 0)))) (sBreak) (sNil)) (sPar 2 3 (lCons (eOp fMod (eCB fInt (lCons (eVar 3) (lNil))) (eVar 2)) (lCons (eVar 2) (lNil)))))) (sRet (eVar 3)))
def f__law_shared : Fn := runFn 2 5 m__law_shared
def m__law_ratio : M Fl := sSeq (sPar 2 3 (lCons (eOp fAdd (eOp fSub (eCallL f__law_dip (lCons (eVar 0) (lCons (eOp fSub (eOp fMul (eLit (.int 2)) (eVar 1)) (eLit (.int 1))) (lNil)))) (eVar 1)) (eLit (.int 1))) (lCons (eOp fAdd (eLit (.int 1)) (eCallL f__law_dip (lCons (eVar 0) (lCons (eCallL f__law_pick (lCons (eVar 0) (lCons (eLst (lCons (eLit (.int 1)) (lCons (eOp fSub (eVar 1) (eLit (.int 1))) (lCons (eOp fSub (eVar 1) (eLit (.int 1))) (lNil))))) (lNil)))) (lNil))))) (lNil)))) (sSeq (sAsg 4 (eCallV f__law_shared (lCons (eVar 2) (lCons (eVar 3) (lNil))))) (sRet (eTup (lCons (eCB fInt (lCons (eOp fDiv (eVar 2) (eVar 4)) (lNil))) (lCons (eCB fInt (lCons (eOp fDiv (eVar 3) (eVar 4)) (lNil))) (lNil))))))
def f__law_ratio : Fn := runFn 2 5 m__law_ratio
def m__law_is : M Fl := sSeq (sIf (bOr (bNot (bVal (eCB (fIsi isT) (lCons (eVar 0) (lCons (eLit (.ty "tuple")) (lNil)))))) (bOr (bVal (eOp fNe (eCB fLen (lCons (eVar 0) (lNil))) (eLit (.int 2)))) (bVal (eOp fNe (eComp [3] (iSeq (eVar 0)) (gNam 3) (bOr (bNot (bVal (eCB (fIsi isT) (lCons (eVar 3) (lCons (eLit (.ty "int")) (lNil)))))) (bVal (eCB (fIsi isT) (lCons (eVar 3) (lCons (eLit (.ty "bool")) (lNil)))))) (eVar 3)) (eLst (lNil)))))) (sRet (eLit (.bl false))) (sNil)) (sRet (eAnd (eOp fGt (eOp fIx (eVar 0) (eLit (.int 1))) (eLit (.int 0))) (eAnd (eOp fEq (eCallV f__law_shared (lCons (eOp fIx (eVar 0) (eLit (.int 0))) (lCons (eOp fIx (eVar 0) (eLit (.int 1))) (lNil)))) (eLit (.int 1))) (eOp fEq (eOp fMul (eOp fIx (eVar 0) (eLit (.int 0))) (eVar 2)) (eOp fMul (eVar 1) (eOp fIx (eVar 0) (eLit (.int 1))))))))
def f__law_is : Fn := runFn 3 4 m__law_is
def m__law_sums_right : M Fl := sSeq (sAsgT (gTupM 2 (gsCons (gTupM 2 (gsCons (gNam 2) (gsCons (gNam 3) (gsEnd)))) (gsCons (gTupM 2 (gsCons (gNam 4) (gsCons (gNam 5) (gsEnd)))) (gsEnd)))) (eTup (lCons (eVar 0) (lCons (eVar 1) (lNil))))) (sSeq (sPar3 6 7 8 (lCons (eCallV f_plus (lCons (eVar 0) (lCons (eCB fList (lCons (eVar 1) (lNil))) (lNil)))) (lCons (eCallV f_minus (lCons (eCB fList (lCons (eVar 0) (lNil))) (lCons (eVar 1) (lNil)))) (lCons (eCallK [1, 0] 2 f_times (lCons (eVar 1) (lCons (eVar 0) (lNil)))) (lNil))))) (sSeq (sIf (bOr (bNot (bVal (eCallV f__law_is (lCons (eVar 6) (lCons (eOp fAdd (eOp fMul (eVar 2) (eVar 5)) (eOp fMul (eVar 4) (eVar 3))) (lCons (eOp fMul (eVar 3) (eVar 5)) (lNil))))))) (bOr (bNot (bVal (eCallV f__law_is (lCons (eVar 7) (lCons (eOp fSub (eOp fMul (eVar 2) (eVar 5)) (eOp fMul (eVar 4) (eVar 3))) (lCons (eOp fMul (eVar 3) (eVar 5)) (lNil))))))) (bNot (bVal (eCallV f__law_is (lCons (eVar 8) (lCons (eOp fMul (eVar 2) (eVar 4)) (lCons (eOp fMul (eVar 3) (eVar 5)) (lNil))))))))) (sRet (eLit (.bl false))) (sNil)) (sSeq (sIf (bOr (bVal (eOp fNe (eCallK [1, 0] 2 f_plus (lCons (eVar 0) (lCons (eVar 1) (lNil)))) (eVar 6))) (bOr (bVal (eOp fNe (eCallV f_minus (lCons (eVar 6) (lCons (eVar 1) (lNil)))) (eVar 0))) (bOr (bVal (eOp fNe (eCallV f_plus (lCons (eVar 7) (lCons (eVar 1) (lNil)))) (eVar 0))) (bVal (eOp fNe (eCallV f_times (lCons (eVar 1) (lCons (eVar 0) (lNil)))) (eVar 8)))))) (sRet (eLit (.bl false))) (sNil)) (sSeq (sIf (bOr (bVal (eOp fNe (eCallK [1, 0] 2 f_minus (lCons (eVar 0) (lCons (eVar 1) (lNil)))) (eTup (lCons (eUn fNeg (eOp fIx (eVar 7) (eLit (.int 0)))) (lCons (eOp fIx (eVar 7) (eLit (.int 1))) (lNil)))))) (bVal (eOp fNe (eCallV f_minus (lCons (eVar 0) (lCons (eVar 0) (lNil)))) (eTup (lCons (eLit (.int 0)) (lCons (eLit (.int 1)) (lNil))))))) (sRet (eLit (.bl false))) (sNil)) (sSeq (sIf (bVal (eOp fEq (eVar 4) (eLit (.int 0)))) (sRet (eOp fEq (eVar 8) (eTup (lCons (eLit (.int 0)) (lCons (eLit (.int 1)) (lNil)))))) (sNil)) (sSeq (sAsg 9 (eCallV f_over (lCons (eVar 0) (lCons (eVar 1) (lNil))))) (sRet (eAnd (eCallV f__law_is (lCons (eVar 9) (lCons (eOp fMul (eVar 2) (eVar 5)) (lCons (eOp fMul (eVar 3) (eVar 4)) (lNil))))) (eAnd (eOp fEq (eCallV f_times (lCons (eVar 9) (lCons (eVar 1) (lNil)))) (eVar 0)) (eAnd (eOp fEq (eCallK [1, 0] 2 f_over (lCons (eVar 1) (lCons (eVar 8) (lNil)))) (eVar 0)) (eOp fEq (eCallV f_over (lCons (eVar 1) (lCons (eVar 1) (lNil)))) (eTup (lCons (eLit (.int 1)) (lCons (eLit (.int 1)) (lNil)))))))))))))))
def f__law_sums_right : Fn := runFn 2 10 m__law_sums_right
def m__law_wide_right : M Fl := sSeq (sAsgT (gTupM 2 (gsCons (gTupM 2 (gsCons (gNam 1) (gsCons (gNam 2) (gsEnd)))) (gsCons (gTupM 2 (gsCons (gNam 3) (gsCons (gNam 4) (gsEnd)))) (gsEnd)))) (eTup (lCons (eCallL f__law_ratio (lCons (eVar 0) (lCons (eOp fPow (eLit (.int 10)) (eLit (.int 9))) (lNil)))) (lCons (eCallL f__law_ratio (lCons (eVar 0) (lCons (eOp fPow (eLit (.int 10)) (eLit (.int 9))) (lNil)))) (lNil))))) (sSeq (sPar 5 6 (lCons (eTup (lCons (eVar 1) (lCons (eVar 2) (lNil)))) (lCons (eTup (lCons (eVar 3) (lCons (eVar 4) (lNil)))) (lNil)))) (sSeq (sIf (bOr (bNot (bVal (eCallV f__law_is (lCons (eCallV f_plus (lCons (eVar 5) (lCons (eVar 6) (lNil)))) (lCons (eOp fAdd (eOp fMul (eVar 1) (eVar 4)) (eOp fMul (eVar 3) (eVar 2))) (lCons (eOp fMul (eVar 2) (eVar 4)) (lNil))))))) (bNot (bVal (eCallV f__law_is (lCons (eCallV f_minus (lCons (eVar 5) (lCons (eVar 6) (lNil)))) (lCons (eOp fSub (eOp fMul (eVar 1) (eVar 4)) (eOp fMul (eVar 3) (eVar 2))) (lCons (eOp fMul (eVar 2) (eVar 4)) (lNil)))))))) (sRet (eLit (.bl false))) (sNil)) (sSeq (sIf (bOr (bNot (bVal (eCallV f__law_is (lCons (eCallV f_times (lCons (eVar 5) (lCons (eVar 6) (lNil)))) (lCons (eOp fMul (eVar 1) (eVar 3)) (lCons (eOp fMul (eVar 2) (eVar 4)) (lNil))))))) (bVal (eOp fNe (eCallV f_compared (lCons (eVar 5) (lCons (eVar 6) (lNil)))) (eOp fSub (eCB fInt (lCons (eOp fGt (eOp fMul (eVar 1) (eVar 4)) (eOp fMul (eVar 3) (eVar 2))) (lNil))) (eCB fInt (lCons (eOp fLt (eOp fMul (eVar 1) (eVar 4)) (eOp fMul (eVar 3) (eVar 2))) (lNil))))))) (sRet (eLit (.bl false))) (sNil)) (sRet (eOr (eOp fEq (eVar 3) (eLit (.int 0))) (eCallV f__law_is (lCons (eCallV f_over (lCons (eVar 5) (lCons (eVar 6) (lNil)))) (lCons (eOp fMul (eVar 1) (eVar 4)) (lCons (eOp fMul (eVar 2) (eVar 3)) (lNil))))))))))
def f__law_wide_right : Fn := runFn 1 7 m__law_wide_right
def m__law_order_right : M Fl := sSeq (sPar 2 3 (lCons (eOp fMul (eOp fIx (eVar 0) (eLit (.int 0))) (eOp fIx (eVar 1) (eLit (.int 1)))) (lCons (eOp fMul (eOp fIx (eVar 1) (eLit (.int 0))) (eOp fIx (eVar 0) (eLit (.int 1)))) (lNil)))) (sSeq (sAsg 4 (eOp fSub (eCB fInt (lCons (eOp fGt (eVar 2) (eVar 3)) (lNil))) (eCB fInt (lCons (eOp fLt (eVar 2) (eVar 3)) (lNil))))) (sSeq (sIf (bOr (bVal (eOp fNe (eCallV f_compared (lCons (eVar 0) (lCons (eVar 1) (lNil)))) (eVar 4))) (bOr (bVal (eOp fNe (eCallK [1, 0] 2 f_compared (lCons (eCB fList (lCons (eVar 0) (lNil))) (lCons (eVar 1) (lNil)))) (eUn fNeg (eVar 4)))) (bVal (eOp fNe (eCallV f_compared (lCons (eVar 0) (lCons (eVar 0) (lNil)))) (eLit (.int 0)))))) (sRet (eLit (.bl false))) (sNil)) (sRet (eAnd (eOp fEq (eCallV f_compared (lCons (eTup (lCons (eUn fNeg (eOp fIx (eVar 0) (eLit (.int 0)))) (lCons (eOp fIx (eVar 0) (eLit (.int 1))) (lNil)))) (lCons (eTup (lCons (eUn fNeg (eOp fIx (eVar 1) (eLit (.int 0)))) (lCons (eOp fIx (eVar 1) (eLit (.int 1))) (lNil)))) (lNil)))) (eUn fNeg (eVar 4))) (eCB (fIsi isT) (lCons (eCallV f_compared (lCons (eVar 0) (lCons (eVar 1) (lNil)))) (lCons (eLit (.ty "int")) (lNil))))))))
def f__law_order_right : Fn := runFn 2 5 m__law_order_right
def m__law_heard (o : Th) : M Fl := sSeq (sAsg 1 (eLit .non)) (sSeq (sTry 2 ct_SeenError (sExpr (eThunk o)) (sAsg 1 (eVar 2))) (sSeq (sIf (bVal (eCB (fIsi isT) (lCons (eVar 1) (lCons (eLit (.cls "BadRatio")) (lNil))))) (sRet (eUn (fldD "part" [] es_part) (eVar 1))) (sNil)) (sRet (eIf (bVal (eOp fIsN (eVar 1) (eLit .non))) (eLit .non) (eLit (.int 0))))))
def g__law_heard : Th → R Mi.S := runG 3 m__law_heard
def ft__law_refused_right : Str → Option Fn := fun x => [(("plus" : Str), f_plus), (("minus" : Str), f_minus), (("times" : Str), f_times), (("over" : Str), f_over), (("compared" : Str), f_compared)].lookup x
def m__law_refused_right : M Fl := sSeq (sAsg 2 (eLst (lCons (eLit .non) (lCons (eLit (.int 5)) (lCons (eLit (.str "1 2")) (lCons (eTup (lCons (eLit (.int 1)) (lNil))) (lCons (eTup (lCons (eLit (.int 1)) (lCons (eLit (.int 2)) (lCons (eLit (.int 3)) (lNil))))) (lCons (eTup (lCons (eLit (.int 2)) (lCons (eLit (.int 4)) (lNil)))) (lCons (eTup (lCons (eLit (.int 0)) (lCons (eLit (.int 2)) (lNil)))) (lCons (eTup (lCons (eLit (.int 1)) (lCons (eLit (.int 0)) (lNil)))) (lCons (eTup (lCons (eLit (.int 0)) (lCons (eLit (.int 0)) (lNil)))) (lCons (eTup (lCons (eLit (.int 1)) (lCons (eUn fNeg (eLit (.int 2))) (lNil)))) (lCons (eTup (lCons (eLit (.bl true)) (lCons (eLit (.int 1)) (lNil)))) (lCons (eTup (lCons (eLit (.int 1)) (lCons (eLit (.bl true)) (lNil)))) (lCons (eTup (lCons (eLit (.str "1")) (lCons (eLit (.int 2)) (lNil)))) (lCons (eLst (lCons (eLst (lCons (eLit (.int 1)) (lNil))) (lCons (eLit (.int 2)) (lNil)))) (lCons (eLit (.dic [])) (lCons (eTup (lCons (eOp fIx (eVar 1) (eLit (.int 0))) (lCons (eUn fNeg (eOp fIx (eVar 1) (eLit (.int 1)))) (lNil)))) (lNil))))))))))))))))))) (sSeq (sAsgT (gTupM 2 (gsCons (gNam 3) (gsCons (gNam 4) (gsEnd)))) (eTup (lCons (eCallL f__law_pick (lCons (eVar 0) (lCons (eVar 2) (lNil)))) (lCons (eCallL f__law_pick (lCons (eVar 0) (lCons (eVar 2) (lNil)))) (lNil))))) (sSeq (sFor (iSeq (eTup (lCons (eLit (.fn "plus")) (lCons (eLit (.fn "minus")) (lCons (eLit (.fn "times")) (lCons (eLit (.fn "over")) (lCons (eLit (.fn "compared")) (lNil)))))))) (gNam 5) (sSeq (sAsg 6 (eLst (lCons (eLam [3, 4, 5] (eCallF 5 ft__law_refused_right (lCons (eVar 3) (lCons (eVar 4) (lNil)))) g__law_heard) (lNil)))) (sSeq (sExpr (eAppend (eVar 6) (lCons (eLam [1, 4, 5] (eCallF 5 ft__law_refused_right (lCons (eVar 1) (lCons (eVar 4) (lNil)))) g__law_heard) (lNil)))) (sSeq (sExpr (eAppend (eVar 6) (lCons (eLam [1, 3, 5] (eCallF 5 ft__law_refused_right (lCons (eVar 3) (lCons (eVar 1) (lNil)))) g__law_heard) (lNil)))) (sIf (bVal (eOp fNe (eVar 6) (eLst (lCons (eLit (.str "one")) (lCons (eLit (.str "other")) (lCons (eLit (.str "one")) (lNil))))))) (sRet (eLit (.bl false))) (sNil)))))) (sSeq (sAsg 6 (eLst (lCons (eLam [1] (eCallV f_over (lCons (eVar 1) (lCons (eTup (lCons (eLit (.int 0)) (lCons (eLit (.int 1)) (lNil)))) (lNil)))) g__law_heard) (lNil)))) (sSeq (sExpr (eAppend (eVar 6) (lCons (eLam [3] (eCallV f_over (lCons (eVar 3) (lCons (eTup (lCons (eLit (.int 0)) (lCons (eLit (.int 1)) (lNil)))) (lNil)))) g__law_heard) (lNil)))) (sRet (eOp fEq (eVar 6) (eLst (lCons (eLit (.str "other")) (lCons (eLit (.str "one")) (lNil))))))))))
def f__law_refused_right : Fn := runFn 2 7 m__law_refused_right
def m_law : M Fl := sSeq (sAsg 1 (eCallV f__law_vat (lCons (eVar 0) (lNil)))) (sSeq (sFor (iRng ranged1 (lCons (eLit (.int 6)) (lNil))) (gNam 2) (sSeq (sAsgT (gTupM 2 (gsCons (gNam 3) (gsCons (gNam 4) (gsEnd)))) (eComp [5] (iRng ranged1 (lCons (eLit (.int 2)) (lNil))) (gNam 5) (bYes) (eCallL f__law_ratio (lCons (eVar 1) (lCons (eCallL f__law_pick (lCons (eVar 1) (lCons (eLst (lCons (eLit (.int 4)) (lCons (eLit (.int 4)) (lCons (eLit (.int 30)) (lCons (eLit (.int 1000)) (lCons (eLit (.int 20000)) (lNil))))))) (lNil)))) (lNil)))))) (sSeq (sIf (bOr (bNot (bVal (eCallV f__law_sums_right (lCons (eVar 3) (lCons (eVar 4) (lNil)))))) (bOr (bNot (bVal (eCallV f__law_order_right (lCons (eVar 3) (lCons (eVar 4) (lNil)))))) (bNot (bVal (eCallL f__law_refused_right (lCons (eVar 1) (lCons (eVar 3) (lNil)))))))) (sRet (eLit (.bl false))) (sNil)) (sSeq (sAsg 6 (eCallL f__law_ratio (lCons (eVar 1) (lCons (eLit (.int 30)) (lNil))))) (sSeq (sIf (bOr (bVal (eOp fNe (eCallV f_plus (lCons (eCallV f_plus (lCons (eVar 3) (lCons (eVar 4) (lNil)))) (lCons (eVar 6) (lNil)))) (eCallV f_plus (lCons (eVar 3) (lCons (eCallV f_plus (lCons (eVar 4) (lCons (eVar 6) (lNil)))) (lNil)))))) (bNot (bVal (eCallL f__law_wide_right (lCons (eVar 1) (lNil)))))) (sRet (eLit (.bl false))) (sNil)) (sIf (bVal (eOp fNe (eCallV f_times (lCons (eCallV f_plus (lCons (eVar 3) (lCons (eVar 4) (lNil)))) (lCons (eVar 6) (lNil)))) (eCallV f_plus (lCons (eCallV f_times (lCons (eVar 3) (lCons (eVar 6) (lNil)))) (lCons (eCallV f_times (lCons (eVar 4) (lCons (eVar 6) (lNil)))) (lNil)))))) (sRet (eLit (.bl false))) (sNil))))))) (sRet (eOp fEq (eCallV f_over (lCons (eTup (lCons (eLit (.int 1)) (lCons (eLit (.int 2)) (lNil)))) (lCons (eTup (lCons (eUn fNeg (eLit (.int 3))) (lCons (eLit (.int 4)) (lNil)))) (lNil)))) (eTup (lCons (eUn fNeg (eLit (.int 2))) (lCons (eLit (.int 3)) (lNil)))))))
def f_law : Fn := runFn 1 7 m_law
/-! the head: facts by names -/
def df0 : He.DefD := ⟨("is_integer", none), "is_integer", "is_integer", defArgs s_is_integer, defBody s_is_integer, defScope s_is_integer, [], []⟩
def df1 : He.DefD := ⟨("are_integers", none), "are_integers", "are_integers", defArgs s_are_integers, defBody s_are_integers, defScope s_are_integers, [], []⟩
def df2 : He.DefD := ⟨("measure", none), "measure", "measure", defArgs s_measure, defBody s_measure, defScope s_measure, [], []⟩
def df3 : He.DefD := ⟨("is_ratio", none), "is_ratio", "is_ratio", defArgs s_is_ratio, defBody s_is_ratio, defScope s_is_ratio, [], []⟩
def df4 : He.DefD := ⟨("need_ratio", none), "need_ratio", "need_ratio", defArgs s_need_ratio, defBody s_need_ratio, defScope s_need_ratio, [], []⟩
def df5 : He.DefD := ⟨("in_lowest", none), "in_lowest", "in_lowest", defArgs s_in_lowest, defBody s_in_lowest, defScope s_in_lowest, [], []⟩
def df6 : He.DefD := ⟨("added", none), "added", "added", defArgs s_added, defBody s_added, defScope s_added, [], []⟩
def df7 : He.DefD := ⟨("taken", none), "taken", "taken", defArgs s_taken, defBody s_taken, defScope s_taken, [], []⟩
def df8 : He.DefD := ⟨("multiplied", none), "multiplied", "multiplied", defArgs s_multiplied, defBody s_multiplied, defScope s_multiplied, [], []⟩
def df9 : He.DefD := ⟨("divided", none), "divided", "divided", defArgs s_divided, defBody s_divided, defScope s_divided, [], []⟩
def df10 : He.DefD := ⟨("is_less", none), "is_less", "is_less", defArgs s_is_less, defBody s_is_less, defScope s_is_less, [], []⟩
def df11 : He.DefD := ⟨("need_two", none), "need_two", "need_two", defArgs s_need_two, defBody s_need_two, defScope s_need_two, [], []⟩
def df12 : He.DefD := ⟨("plus", none), "plus", "plus", defArgs s_plus, defBody s_plus, defScope s_plus, [], []⟩
def df13 : He.DefD := ⟨("minus", none), "minus", "minus", defArgs s_minus, defBody s_minus, defScope s_minus, [], []⟩
def df14 : He.DefD := ⟨("times", none), "times", "times", defArgs s_times, defBody s_times, defScope s_times, [], []⟩
def df15 : He.DefD := ⟨("over", none), "over", "over", defArgs s_over, defBody s_over, defScope s_over, [], []⟩
def df16 : He.DefD := ⟨("compared", none), "compared", "compared", defArgs s_compared, defBody s_compared, defScope s_compared, [], []⟩
def df17 : He.DefD := ⟨("_law_vat", none), "_law_vat", "_law_vat", defArgs s__law_vat, defBody s__law_vat, defScope s__law_vat, [], []⟩
def df18 : He.DefD := ⟨("_law_dip", none), "_law_dip", "_law_dip", defArgs s__law_dip, defBody s__law_dip, defScope s__law_dip, [], []⟩
def df19 : He.DefD := ⟨("_law_pick", none), "_law_pick", "_law_pick", defArgs s__law_pick, defBody s__law_pick, defScope s__law_pick, [], []⟩
def df20 : He.DefD := ⟨("_law_shared", none), "_law_shared", "_law_shared", defArgs s__law_shared, defBody s__law_shared, defScope s__law_shared, [], []⟩
def df21 : He.DefD := ⟨("_law_ratio", none), "_law_ratio", "_law_ratio", defArgs s__law_ratio, defBody s__law_ratio, defScope s__law_ratio, [], []⟩
def df22 : He.DefD := ⟨("_law_is", none), "_law_is", "_law_is", defArgs s__law_is, defBody s__law_is, defScope s__law_is, [], []⟩
def df23 : He.DefD := ⟨("_law_sums_right", none), "_law_sums_right", "_law_sums_right", defArgs s__law_sums_right, defBody s__law_sums_right, defScope s__law_sums_right, [], []⟩
def df24 : He.DefD := ⟨("_law_wide_right", none), "_law_wide_right", "_law_wide_right", defArgs s__law_wide_right, defBody s__law_wide_right, defScope s__law_wide_right, [], []⟩
def df25 : He.DefD := ⟨("_law_order_right", none), "_law_order_right", "_law_order_right", defArgs s__law_order_right, defBody s__law_order_right, defScope s__law_order_right, [], []⟩
def df26 : He.DefD := ⟨("_law_heard", none), "_law_heard", "_law_heard", defArgs s__law_heard, defBody s__law_heard, defScope s__law_heard, [], []⟩
def df27 : He.DefD := ⟨("_law_refused_right", none), "_law_refused_right", "_law_refused_right", defArgs s__law_refused_right, defBody s__law_refused_right, defScope s__law_refused_right, [], []⟩
def df28 : He.DefD := ⟨("law", none), "law", "law", defArgs s_law, defBody s_law, defScope s_law, [], []⟩
def df29 : He.DefD := ⟨("BadRatio", some "__init__"), "__init__", "BadRatio.__init__", defArgs s_BadRatio_init, defBody s_BadRatio_init, defScope s_BadRatio_init, [], []⟩
def fn0 : List He.DefD := [df0, df1, df2, df3, df4, df5, df6, df7, df8, df9, df10, df11, df12, df13, df14, df15, df16, df17, df18, df19, df20, df21, df22, df23, df24, df25, df26, df27, df28, df29]
def fn : List He.DefD := fn0
def fa0 : List He.Fa := [.glo "SeenError", .glo "BadRatio", .glo "is_integer", .glo "are_integers", .glo "is_ratio", .glo "need_ratio", .glo "measure", .glo "in_lowest", .glo "added", .glo "taken", .glo "multiplied", .glo "divided", .glo "is_less", .glo "need_two", .glo "plus", .glo "minus", .glo "times", .glo "over", .glo "compared", .glo "_law_vat", .glo "_law_dip", .glo "_law_pick", .glo "_law_shared", .glo "_law_ratio", .glo "_law_is", .glo "_law_sums_right", .glo "_law_wide_right", .glo "_law_order_right", .glo "_law_heard", .glo "_law_refused_right"]
def fa1 : List He.Fa := [.glo "law", .free "int", .free "isinstance", .free "bool", .free "tuple", .free "list", .free "all", .free "len", .free "abs", .free "range"]
def fa : List He.Fa := fa0 ++ fa1
def tq : List Tq := [(("_law_refused_right", none), "_law_refused_right")]
def exs (K : PySem.W.Frag) : List Bool := [decide ((tq.map fun p => (He.cT K p.1).2).Nodup), isB isL K, fldB "part" [] es_part K, catB "SeenError" cl_SeenError K, xokB "BadRatio" ["part"] K]
section
variable {P : Program} {w : World} {K : PySem.W.Frag} {mg : Str → Option Value} {base : Heap}
theorem tabU (hd : HdOk fa fn tq exs K mg base) : (tq.map fun p => (He.cT K p.1).2).Nodup := of_decide_eq_true (hd.ex 0)
theorem xo_BadRatio (hd : HdOk fa fn tq exs K mg base) : ExcOk P w K mg base (gxOf tq K mg) 1 "BadRatio" ["part"] := by
  obtain ⟨fd, Fu⟩ := hd.df 29 (d := df29)
  exact excOk hd (hd.ex 4) (init1 Fu (C8.fnScope_by (by decide +kernel)) (by decide) (by decide)) (FunD.bindsN (ps := ["self", "part"]) Fu fun _ _ _ _ _ _ us hl => match us, hl with | [_, _], _ => rfl) (by decide)
theorem sc_is_integer : FnScope ["value"] ["value"] (defScope s_is_integer) := C8.fnScope_by (by decide +kernel)
theorem o_is_integer {fd : FuncData} (hd : HdOk fa fn tq exs K mg base) (Fu : FunD K "is_integer" "is_integer" (defArgs s_is_integer) (defBody s_is_integer) (defScope s_is_integer) [] [] (He.ga K "is_integer") fd) : FnOk P w K mg base (L2.CX P w) 1 (He.ga K "is_integer") fd ["value"] (spM (gxOf tq K mg) 1 f_is_integer) :=
  fnD (N := ["value"]) (k := 0) (m := m_is_integer) rfl Fu sc_is_integer fun cdv A outer s H E F hc eG hr ft => by
    obtain ⟨G', Φ0, H0, Pl, rw⟩ := F; cases eG
    exact (bl_one (sm_ret (em_and (x_isi ft (isOk hd (hd.ex 1)) (hd.free 32) (lm_cons (em_var 0) (lm_cons (em_gty (hd.free 31)) lm_nil))) (em_one (em_not (x_isi ft (isOk hd (hd.ex 1)) (hd.free 32) (lm_cons (em_var 0) (lm_cons (em_gty (hd.free 33)) lm_nil))))))))
theorem d_is_integer (hd : HdOk fa fn tq exs K mg base) : DefOk P w K mg base (gxOf tq K mg) 1 "is_integer" 1 f_is_integer := by
  obtain ⟨fd, Fu⟩ := hd.df 0 (d := df0)
  exact ⟨⟨_, fd, _, o_is_integer hd Fu, hd.glo 2, Fu.kp, FunD.bindsN (ps := ["value"]) Fu (fun _ _ _ _ _ _ us hl => match us, hl with | [_], _ => rfl)⟩, proper_run, arity_run⟩
theorem sc_are_integers : FnScope ["value", "each"] ["value"] (defScope s_are_integers) := C8.fnScope_by (by decide +kernel)
theorem o_are_integers {fd : FuncData} (hd : HdOk fa fn tq exs K mg base) (Fu : FunD K "are_integers" "are_integers" (defArgs s_are_integers) (defBody s_are_integers) (defScope s_are_integers) [] [] (He.ga K "are_integers") fd) : FnOk P w K mg base (L2.CX P w) 2 (He.ga K "are_integers") fd ["value"] (spM (gxOf tq K mg) 1 f_are_integers) :=
  fnD (N := ["value", "each"]) (k := 1) (m := m_are_integers) rfl Fu sc_are_integers fun cdv A outer s H E F hc eG hr ft => by
    obtain ⟨G', Φ0, H0, Pl, rw⟩ := F; cases eG
    exact (bl_one (sm_ret (em_and (x_isi ft (isOk hd (hd.ex 1)) (hd.free 32) (lm_cons (em_var 0) (lm_cons (em_tup (lm_cons (em_gty (hd.free 35)) (lm_cons (em_gty (hd.free 34)) lm_nil))) lm_nil))) (em_one (x_all ft (hd.free 36) (lm_cons (em_comp [("each", 1)] ft (im_seq ft (em_var 0)) (fun s H C cl fp ft => (gm_name 1 ft.nd)) (fun s H C cl fp ft => pts_yes) (fun s H C cl fp ft => (em_callV ft (hr.mono (by decide)) (d_is_integer hd) (lm_cons (em_var 1) lm_nil)))) lm_nil))))))
theorem d_are_integers (hd : HdOk fa fn tq exs K mg base) : DefOk P w K mg base (gxOf tq K mg) 2 "are_integers" 1 f_are_integers := by
  obtain ⟨fd, Fu⟩ := hd.df 1 (d := df1)
  exact ⟨⟨_, fd, _, o_are_integers hd Fu, hd.glo 3, Fu.kp, FunD.bindsN (ps := ["value"]) Fu (fun _ _ _ _ _ _ us hl => match us, hl with | [_], _ => rfl)⟩, proper_run, arity_run⟩
theorem sc_measure : FnScope ["values", "found", "value", "one", "other"] ["values"] (defScope s_measure) := C8.fnScope_by (by decide +kernel)
theorem o_measure {fd : FuncData} (hd : HdOk fa fn tq exs K mg base) (Fu : FunD K "measure" "measure" (defArgs s_measure) (defBody s_measure) (defScope s_measure) [] [] (He.ga K "measure") fd) : FnOk P w K mg base (L2.CX P w) 1 (He.ga K "measure") fd ["values"] (spM (gxOf tq K mg) 1 f_measure) :=
  fnD (N := ["values", "found", "value", "one", "other"]) (k := 0) (m := m_measure) rfl Fu sc_measure fun cdv A outer s H E F hc eG hr ft => by
    obtain ⟨G', Φ0, H0, Pl, rw⟩ := F; cases eG
    exact (bl_cons (sm_set 1 ft.nd em_int) (bl_cons (sm_for ft (im_seq ft (em_var 0)) (gm_name 2 ft.nd) (bl_cons (sm_par 3 4 ft.calm ft.nd (lm_cons (em_var 1) (lm_cons (x_abs (hd.free 38) (lm_cons (em_var 2) lm_nil)) lm_nil))) (bl_cons (sm_while ft (t_ne ft (unitsOk hr) (em_var 4) em_int) (bl_one (sm_par 3 4 ft.calm ft.nd (lm_cons (em_var 4) (lm_cons (x_mod (em_var 3) (em_var 4)) lm_nil))))) (bl_one (sm_set 1 ft.nd (em_var 3)))))) (bl_one (sm_ret (em_var 1)))))
theorem d_measure (hd : HdOk fa fn tq exs K mg base) : DefOk P w K mg base (gxOf tq K mg) 1 "measure" 1 f_measure := by
  obtain ⟨fd, Fu⟩ := hd.df 2 (d := df2)
  exact ⟨⟨_, fd, _, o_measure hd Fu, hd.glo 6, Fu.kp, FunD.bindsN (ps := ["values"]) Fu (fun _ _ _ _ _ _ us hl => match us, hl with | [_], _ => rfl)⟩, proper_run, arity_run⟩
theorem sc_is_ratio : FnScope ["value"] ["value"] (defScope s_is_ratio) := C8.fnScope_by (by decide +kernel)
theorem o_is_ratio {fd : FuncData} (hd : HdOk fa fn tq exs K mg base) (Fu : FunD K "is_ratio" "is_ratio" (defArgs s_is_ratio) (defBody s_is_ratio) (defScope s_is_ratio) [] [] (He.ga K "is_ratio") fd) : FnOk P w K mg base (L2.CX P w) 3 (He.ga K "is_ratio") fd ["value"] (spM (gxOf tq K mg) 1 f_is_ratio) :=
  fnD (N := ["value"]) (k := 2) (m := m_is_ratio) rfl Fu sc_is_ratio fun cdv A outer s H E F hc eG hr ft => by
    obtain ⟨G', Φ0, H0, Pl, rw⟩ := F; cases eG
    exact (bl_cons (sm_if (wm_or (bm_not (bm_val (em_callV ft (hr.mono (by decide)) (d_are_integers hd) (lm_cons (em_var 0) lm_nil)))) (wm_or1 (t_ne ft (unitsOk hr) (x_len ft (hd.free 37) (lm_cons (em_var 0) lm_nil)) em_int))).pt (bl_one (sm_ret em_bl)) bl_nil) (bl_one (sm_ret (em_and (x_gt (x_ix ft (em_var 0) em_int) em_int) (em_one (x_eq ft (unitsOk hr) (em_callV ft (hr.mono (by decide)) (d_measure hd) (lm_cons (em_var 0) lm_nil)) em_int))))))
theorem d_is_ratio (hd : HdOk fa fn tq exs K mg base) : DefOk P w K mg base (gxOf tq K mg) 3 "is_ratio" 1 f_is_ratio := by
  obtain ⟨fd, Fu⟩ := hd.df 3 (d := df3)
  exact ⟨⟨_, fd, _, o_is_ratio hd Fu, hd.glo 4, Fu.kp, FunD.bindsN (ps := ["value"]) Fu (fun _ _ _ _ _ _ us hl => match us, hl with | [_], _ => rfl)⟩, proper_run, arity_run⟩
theorem sc_need_ratio : FnScope ["value", "part"] ["value", "part"] (defScope s_need_ratio) := C8.fnScope_by (by decide +kernel)
theorem o_need_ratio {fd : FuncData} (hd : HdOk fa fn tq exs K mg base) (Fu : FunD K "need_ratio" "need_ratio" (defArgs s_need_ratio) (defBody s_need_ratio) (defScope s_need_ratio) [] [] (He.ga K "need_ratio") fd) : FnOk P w K mg base (L2.CX P w) 4 (He.ga K "need_ratio") fd ["value", "part"] (spM (gxOf tq K mg) 2 f_need_ratio) :=
  fnD (N := ["value", "part"]) (k := 3) (m := m_need_ratio) rfl Fu sc_need_ratio fun cdv A outer s H E F hc eG hr ft => by
    obtain ⟨G', Φ0, H0, Pl, rw⟩ := F; cases eG
    exact (bl_one (sm_if (bm_not (bm_val (em_callV ft (hr.mono (by decide)) (d_is_ratio hd) (lm_cons (em_var 0) lm_nil)))) (bl_one (sm_raise ft (hr.mono (by decide)) (xo_BadRatio hd) (lm_cons (em_var 1) lm_nil))) bl_nil))
theorem d_need_ratio (hd : HdOk fa fn tq exs K mg base) : DefOk P w K mg base (gxOf tq K mg) 4 "need_ratio" 2 f_need_ratio := by
  obtain ⟨fd, Fu⟩ := hd.df 4 (d := df4)
  exact ⟨⟨_, fd, _, o_need_ratio hd Fu, hd.glo 5, Fu.kp, FunD.bindsN (ps := ["value", "part"]) Fu (fun _ _ _ _ _ _ us hl => match us, hl with | [_, _], _ => rfl)⟩, proper_run, arity_run⟩
theorem sc_in_lowest : FnScope ["number", "by", "shared"] ["number", "by"] (defScope s_in_lowest) := C8.fnScope_by (by decide +kernel)
theorem o_in_lowest {fd : FuncData} (hd : HdOk fa fn tq exs K mg base) (Fu : FunD K "in_lowest" "in_lowest" (defArgs s_in_lowest) (defBody s_in_lowest) (defScope s_in_lowest) [] [] (He.ga K "in_lowest") fd) : FnOk P w K mg base (L2.CX P w) 2 (He.ga K "in_lowest") fd ["number", "by"] (spM (gxOf tq K mg) 2 f_in_lowest) :=
  fnD (N := ["number", "by", "shared"]) (k := 1) (m := m_in_lowest) rfl Fu sc_in_lowest fun cdv A outer s H E F hc eG hr ft => by
    obtain ⟨G', Φ0, H0, Pl, rw⟩ := F; cases eG
    exact (bl_cons (sm_set 2 ft.nd (em_if (t_gt (em_var 1) em_int) (em_callV ft (hr.mono (by decide)) (d_measure hd) (lm_cons (em_lst (lm_cons (em_var 0) (lm_cons (em_var 1) lm_nil))) lm_nil)) (x_neg (em_callV ft (hr.mono (by decide)) (d_measure hd) (lm_cons (em_lst (lm_cons (em_var 0) (lm_cons (em_var 1) lm_nil))) lm_nil))))) (bl_one (sm_ret (em_tup (lm_cons (x_div (em_var 0) (em_var 2)) (lm_cons (x_div (em_var 1) (em_var 2)) lm_nil))))))
theorem d_in_lowest (hd : HdOk fa fn tq exs K mg base) : DefOk P w K mg base (gxOf tq K mg) 2 "in_lowest" 2 f_in_lowest := by
  obtain ⟨fd, Fu⟩ := hd.df 5 (d := df5)
  exact ⟨⟨_, fd, _, o_in_lowest hd Fu, hd.glo 7, Fu.kp, FunD.bindsN (ps := ["number", "by"]) Fu (fun _ _ _ _ _ _ us hl => match us, hl with | [_, _], _ => rfl)⟩, proper_run, arity_run⟩
theorem sc_added : FnScope ["one", "other"] ["one", "other"] (defScope s_added) := C8.fnScope_by (by decide +kernel)
theorem o_added {fd : FuncData} (hd : HdOk fa fn tq exs K mg base) (Fu : FunD K "added" "added" (defArgs s_added) (defBody s_added) (defScope s_added) [] [] (He.ga K "added") fd) : FnOk P w K mg base (L2.CX P w) 3 (He.ga K "added") fd ["one", "other"] (spM (gxOf tq K mg) 2 f_added) :=
  fnD (N := ["one", "other"]) (k := 2) (m := m_added) rfl Fu sc_added fun cdv A outer s H E F hc eG hr ft => by
    obtain ⟨G', Φ0, H0, Pl, rw⟩ := F; cases eG
    exact (bl_one (sm_ret (em_callV ft (hr.mono (by decide)) (d_in_lowest hd) (lm_cons (x_add ft (x_mul (x_ix ft (em_var 0) em_int) (x_ix ft (em_var 1) em_int)) (x_mul (x_ix ft (em_var 1) em_int) (x_ix ft (em_var 0) em_int))) (lm_cons (x_mul (x_ix ft (em_var 0) em_int) (x_ix ft (em_var 1) em_int)) lm_nil)))))
theorem d_added (hd : HdOk fa fn tq exs K mg base) : DefOk P w K mg base (gxOf tq K mg) 3 "added" 2 f_added := by
  obtain ⟨fd, Fu⟩ := hd.df 6 (d := df6)
  exact ⟨⟨_, fd, _, o_added hd Fu, hd.glo 8, Fu.kp, FunD.bindsN (ps := ["one", "other"]) Fu (fun _ _ _ _ _ _ us hl => match us, hl with | [_, _], _ => rfl)⟩, proper_run, arity_run⟩
theorem sc_taken : FnScope ["one", "other"] ["one", "other"] (defScope s_taken) := C8.fnScope_by (by decide +kernel)
theorem o_taken {fd : FuncData} (hd : HdOk fa fn tq exs K mg base) (Fu : FunD K "taken" "taken" (defArgs s_taken) (defBody s_taken) (defScope s_taken) [] [] (He.ga K "taken") fd) : FnOk P w K mg base (L2.CX P w) 3 (He.ga K "taken") fd ["one", "other"] (spM (gxOf tq K mg) 2 f_taken) :=
  fnD (N := ["one", "other"]) (k := 2) (m := m_taken) rfl Fu sc_taken fun cdv A outer s H E F hc eG hr ft => by
    obtain ⟨G', Φ0, H0, Pl, rw⟩ := F; cases eG
    exact (bl_one (sm_ret (em_callV ft (hr.mono (by decide)) (d_in_lowest hd) (lm_cons (x_sub (x_mul (x_ix ft (em_var 0) em_int) (x_ix ft (em_var 1) em_int)) (x_mul (x_ix ft (em_var 1) em_int) (x_ix ft (em_var 0) em_int))) (lm_cons (x_mul (x_ix ft (em_var 0) em_int) (x_ix ft (em_var 1) em_int)) lm_nil)))))
theorem d_taken (hd : HdOk fa fn tq exs K mg base) : DefOk P w K mg base (gxOf tq K mg) 3 "taken" 2 f_taken := by
  obtain ⟨fd, Fu⟩ := hd.df 7 (d := df7)
  exact ⟨⟨_, fd, _, o_taken hd Fu, hd.glo 9, Fu.kp, FunD.bindsN (ps := ["one", "other"]) Fu (fun _ _ _ _ _ _ us hl => match us, hl with | [_, _], _ => rfl)⟩, proper_run, arity_run⟩
theorem sc_multiplied : FnScope ["one", "other"] ["one", "other"] (defScope s_multiplied) := C8.fnScope_by (by decide +kernel)
theorem o_multiplied {fd : FuncData} (hd : HdOk fa fn tq exs K mg base) (Fu : FunD K "multiplied" "multiplied" (defArgs s_multiplied) (defBody s_multiplied) (defScope s_multiplied) [] [] (He.ga K "multiplied") fd) : FnOk P w K mg base (L2.CX P w) 3 (He.ga K "multiplied") fd ["one", "other"] (spM (gxOf tq K mg) 2 f_multiplied) :=
  fnD (N := ["one", "other"]) (k := 2) (m := m_multiplied) rfl Fu sc_multiplied fun cdv A outer s H E F hc eG hr ft => by
    obtain ⟨G', Φ0, H0, Pl, rw⟩ := F; cases eG
    exact (bl_one (sm_ret (em_callV ft (hr.mono (by decide)) (d_in_lowest hd) (lm_cons (x_mul (x_ix ft (em_var 0) em_int) (x_ix ft (em_var 1) em_int)) (lm_cons (x_mul (x_ix ft (em_var 0) em_int) (x_ix ft (em_var 1) em_int)) lm_nil)))))
theorem d_multiplied (hd : HdOk fa fn tq exs K mg base) : DefOk P w K mg base (gxOf tq K mg) 3 "multiplied" 2 f_multiplied := by
  obtain ⟨fd, Fu⟩ := hd.df 8 (d := df8)
  exact ⟨⟨_, fd, _, o_multiplied hd Fu, hd.glo 10, Fu.kp, FunD.bindsN (ps := ["one", "other"]) Fu (fun _ _ _ _ _ _ us hl => match us, hl with | [_, _], _ => rfl)⟩, proper_run, arity_run⟩
theorem sc_divided : FnScope ["one", "other"] ["one", "other"] (defScope s_divided) := C8.fnScope_by (by decide +kernel)
theorem o_divided {fd : FuncData} (hd : HdOk fa fn tq exs K mg base) (Fu : FunD K "divided" "divided" (defArgs s_divided) (defBody s_divided) (defScope s_divided) [] [] (He.ga K "divided") fd) : FnOk P w K mg base (L2.CX P w) 3 (He.ga K "divided") fd ["one", "other"] (spM (gxOf tq K mg) 2 f_divided) :=
  fnD (N := ["one", "other"]) (k := 2) (m := m_divided) rfl Fu sc_divided fun cdv A outer s H E F hc eG hr ft => by
    obtain ⟨G', Φ0, H0, Pl, rw⟩ := F; cases eG
    exact (bl_one (sm_ret (em_callV ft (hr.mono (by decide)) (d_in_lowest hd) (lm_cons (x_mul (x_ix ft (em_var 0) em_int) (x_ix ft (em_var 1) em_int)) (lm_cons (x_mul (x_ix ft (em_var 0) em_int) (x_ix ft (em_var 1) em_int)) lm_nil)))))
theorem d_divided (hd : HdOk fa fn tq exs K mg base) : DefOk P w K mg base (gxOf tq K mg) 3 "divided" 2 f_divided := by
  obtain ⟨fd, Fu⟩ := hd.df 9 (d := df9)
  exact ⟨⟨_, fd, _, o_divided hd Fu, hd.glo 11, Fu.kp, FunD.bindsN (ps := ["one", "other"]) Fu (fun _ _ _ _ _ _ us hl => match us, hl with | [_, _], _ => rfl)⟩, proper_run, arity_run⟩
theorem sc_is_less : FnScope ["one", "other"] ["one", "other"] (defScope s_is_less) := C8.fnScope_by (by decide +kernel)
theorem o_is_less {fd : FuncData} (hd : HdOk fa fn tq exs K mg base) (Fu : FunD K "is_less" "is_less" (defArgs s_is_less) (defBody s_is_less) (defScope s_is_less) [] [] (He.ga K "is_less") fd) : FnOk P w K mg base (L2.CX P w) 1 (He.ga K "is_less") fd ["one", "other"] (spM (gxOf tq K mg) 2 f_is_less) :=
  fnD (N := ["one", "other"]) (k := 0) (m := m_is_less) rfl Fu sc_is_less fun cdv A outer s H E F hc eG hr ft => by
    obtain ⟨G', Φ0, H0, Pl, rw⟩ := F; cases eG
    exact (bl_one (sm_ret (x_lt (x_mul (x_ix ft (em_var 0) em_int) (x_ix ft (em_var 1) em_int)) (x_mul (x_ix ft (em_var 1) em_int) (x_ix ft (em_var 0) em_int)))))
theorem d_is_less (hd : HdOk fa fn tq exs K mg base) : DefOk P w K mg base (gxOf tq K mg) 1 "is_less" 2 f_is_less := by
  obtain ⟨fd, Fu⟩ := hd.df 10 (d := df10)
  exact ⟨⟨_, fd, _, o_is_less hd Fu, hd.glo 12, Fu.kp, FunD.bindsN (ps := ["one", "other"]) Fu (fun _ _ _ _ _ _ us hl => match us, hl with | [_, _], _ => rfl)⟩, proper_run, arity_run⟩
theorem sc_need_two : FnScope ["one", "other"] ["one", "other"] (defScope s_need_two) := C8.fnScope_by (by decide +kernel)
theorem o_need_two {fd : FuncData} (hd : HdOk fa fn tq exs K mg base) (Fu : FunD K "need_two" "need_two" (defArgs s_need_two) (defBody s_need_two) (defScope s_need_two) [] [] (He.ga K "need_two") fd) : FnOk P w K mg base (L2.CX P w) 5 (He.ga K "need_two") fd ["one", "other"] (spM (gxOf tq K mg) 2 f_need_two) :=
  fnD (N := ["one", "other"]) (k := 4) (m := m_need_two) rfl Fu sc_need_two fun cdv A outer s H E F hc eG hr ft => by
    obtain ⟨G', Φ0, H0, Pl, rw⟩ := F; cases eG
    exact (bl_cons (sm_expr (em_callV ft (hr.mono (by decide)) (d_need_ratio hd) (lm_cons (em_var 0) (lm_cons em_str lm_nil)))) (bl_one (sm_expr (em_callV ft (hr.mono (by decide)) (d_need_ratio hd) (lm_cons (em_var 1) (lm_cons em_str lm_nil))))))
theorem d_need_two (hd : HdOk fa fn tq exs K mg base) : DefOk P w K mg base (gxOf tq K mg) 5 "need_two" 2 f_need_two := by
  obtain ⟨fd, Fu⟩ := hd.df 11 (d := df11)
  exact ⟨⟨_, fd, _, o_need_two hd Fu, hd.glo 13, Fu.kp, FunD.bindsN (ps := ["one", "other"]) Fu (fun _ _ _ _ _ _ us hl => match us, hl with | [_, _], _ => rfl)⟩, proper_run, arity_run⟩
theorem sc_plus : FnScope ["one", "other"] ["one", "other"] (defScope s_plus) := C8.fnScope_by (by decide +kernel)
theorem o_plus {fd : FuncData} (hd : HdOk fa fn tq exs K mg base) (Fu : FunD K "plus" "plus" (defArgs s_plus) (defBody s_plus) (defScope s_plus) [] [] (He.ga K "plus") fd) : FnOk P w K mg base (L2.CX P w) 6 (He.ga K "plus") fd ["one", "other"] (spM (gxOf tq K mg) 2 f_plus) :=
  fnD (N := ["one", "other"]) (k := 5) (m := m_plus) rfl Fu sc_plus fun cdv A outer s H E F hc eG hr ft => by
    obtain ⟨G', Φ0, H0, Pl, rw⟩ := F; cases eG
    exact (bl_cons (sm_expr (em_callV ft (hr.mono (by decide)) (d_need_two hd) (lm_cons (em_var 0) (lm_cons (em_var 1) lm_nil)))) (bl_one (sm_ret (em_callV ft (hr.mono (by decide)) (d_added hd) (lm_cons (em_var 0) (lm_cons (em_var 1) lm_nil))))))
theorem d_plus (hd : HdOk fa fn tq exs K mg base) : DefOk P w K mg base (gxOf tq K mg) 6 "plus" 2 f_plus := by
  obtain ⟨fd, Fu⟩ := hd.df 12 (d := df12)
  exact ⟨⟨_, fd, _, o_plus hd Fu, hd.glo 14, Fu.kp, FunD.bindsN (ps := ["one", "other"]) Fu (fun _ _ _ _ _ _ us hl => match us, hl with | [_, _], _ => rfl)⟩, proper_run, arity_run⟩
theorem kw_plus_10 (hd : HdOk fa fn tq exs K mg base) : KwOk P w K mg base (gxOf tq K mg) 6 "plus" 2 ["other", "one"] [1, 0] f_plus := by
  obtain ⟨fd, Fu⟩ := hd.df 12 (d := df12)
  exact kwOk (d_plus hd) Fu (hd.glo 14) rfl (fun _ _ _ _ _ _ us hl => match us, hl with | [_, _], _ => rfl) (o_plus hd Fu)
theorem sc_minus : FnScope ["one", "other"] ["one", "other"] (defScope s_minus) := C8.fnScope_by (by decide +kernel)
theorem o_minus {fd : FuncData} (hd : HdOk fa fn tq exs K mg base) (Fu : FunD K "minus" "minus" (defArgs s_minus) (defBody s_minus) (defScope s_minus) [] [] (He.ga K "minus") fd) : FnOk P w K mg base (L2.CX P w) 6 (He.ga K "minus") fd ["one", "other"] (spM (gxOf tq K mg) 2 f_minus) :=
  fnD (N := ["one", "other"]) (k := 5) (m := m_minus) rfl Fu sc_minus fun cdv A outer s H E F hc eG hr ft => by
    obtain ⟨G', Φ0, H0, Pl, rw⟩ := F; cases eG
    exact (bl_cons (sm_expr (em_callV ft (hr.mono (by decide)) (d_need_two hd) (lm_cons (em_var 0) (lm_cons (em_var 1) lm_nil)))) (bl_one (sm_ret (em_callV ft (hr.mono (by decide)) (d_taken hd) (lm_cons (em_var 0) (lm_cons (em_var 1) lm_nil))))))
theorem d_minus (hd : HdOk fa fn tq exs K mg base) : DefOk P w K mg base (gxOf tq K mg) 6 "minus" 2 f_minus := by
  obtain ⟨fd, Fu⟩ := hd.df 13 (d := df13)
  exact ⟨⟨_, fd, _, o_minus hd Fu, hd.glo 15, Fu.kp, FunD.bindsN (ps := ["one", "other"]) Fu (fun _ _ _ _ _ _ us hl => match us, hl with | [_, _], _ => rfl)⟩, proper_run, arity_run⟩
theorem kw_minus_10 (hd : HdOk fa fn tq exs K mg base) : KwOk P w K mg base (gxOf tq K mg) 6 "minus" 2 ["other", "one"] [1, 0] f_minus := by
  obtain ⟨fd, Fu⟩ := hd.df 13 (d := df13)
  exact kwOk (d_minus hd) Fu (hd.glo 15) rfl (fun _ _ _ _ _ _ us hl => match us, hl with | [_, _], _ => rfl) (o_minus hd Fu)
theorem sc_times : FnScope ["one", "other"] ["one", "other"] (defScope s_times) := C8.fnScope_by (by decide +kernel)
theorem o_times {fd : FuncData} (hd : HdOk fa fn tq exs K mg base) (Fu : FunD K "times" "times" (defArgs s_times) (defBody s_times) (defScope s_times) [] [] (He.ga K "times") fd) : FnOk P w K mg base (L2.CX P w) 6 (He.ga K "times") fd ["one", "other"] (spM (gxOf tq K mg) 2 f_times) :=
  fnD (N := ["one", "other"]) (k := 5) (m := m_times) rfl Fu sc_times fun cdv A outer s H E F hc eG hr ft => by
    obtain ⟨G', Φ0, H0, Pl, rw⟩ := F; cases eG
    exact (bl_cons (sm_expr (em_callV ft (hr.mono (by decide)) (d_need_two hd) (lm_cons (em_var 0) (lm_cons (em_var 1) lm_nil)))) (bl_one (sm_ret (em_callV ft (hr.mono (by decide)) (d_multiplied hd) (lm_cons (em_var 0) (lm_cons (em_var 1) lm_nil))))))
theorem d_times (hd : HdOk fa fn tq exs K mg base) : DefOk P w K mg base (gxOf tq K mg) 6 "times" 2 f_times := by
  obtain ⟨fd, Fu⟩ := hd.df 14 (d := df14)
  exact ⟨⟨_, fd, _, o_times hd Fu, hd.glo 16, Fu.kp, FunD.bindsN (ps := ["one", "other"]) Fu (fun _ _ _ _ _ _ us hl => match us, hl with | [_, _], _ => rfl)⟩, proper_run, arity_run⟩
theorem kw_times_10 (hd : HdOk fa fn tq exs K mg base) : KwOk P w K mg base (gxOf tq K mg) 6 "times" 2 ["other", "one"] [1, 0] f_times := by
  obtain ⟨fd, Fu⟩ := hd.df 14 (d := df14)
  exact kwOk (d_times hd) Fu (hd.glo 16) rfl (fun _ _ _ _ _ _ us hl => match us, hl with | [_, _], _ => rfl) (o_times hd Fu)
theorem sc_over : FnScope ["one", "other"] ["one", "other"] (defScope s_over) := C8.fnScope_by (by decide +kernel)
theorem o_over {fd : FuncData} (hd : HdOk fa fn tq exs K mg base) (Fu : FunD K "over" "over" (defArgs s_over) (defBody s_over) (defScope s_over) [] [] (He.ga K "over") fd) : FnOk P w K mg base (L2.CX P w) 6 (He.ga K "over") fd ["one", "other"] (spM (gxOf tq K mg) 2 f_over) :=
  fnD (N := ["one", "other"]) (k := 5) (m := m_over) rfl Fu sc_over fun cdv A outer s H E F hc eG hr ft => by
    obtain ⟨G', Φ0, H0, Pl, rw⟩ := F; cases eG
    exact (bl_cons (sm_expr (em_callV ft (hr.mono (by decide)) (d_need_two hd) (lm_cons (em_var 0) (lm_cons (em_var 1) lm_nil)))) (bl_cons (sm_if (t_eq ft (unitsOk hr) (x_ix ft (em_var 1) em_int) em_int) (bl_one (sm_raise ft (hr.mono (by decide)) (xo_BadRatio hd) (lm_cons em_str lm_nil))) bl_nil) (bl_one (sm_ret (em_callV ft (hr.mono (by decide)) (d_divided hd) (lm_cons (em_var 0) (lm_cons (em_var 1) lm_nil)))))))
theorem d_over (hd : HdOk fa fn tq exs K mg base) : DefOk P w K mg base (gxOf tq K mg) 6 "over" 2 f_over := by
  obtain ⟨fd, Fu⟩ := hd.df 15 (d := df15)
  exact ⟨⟨_, fd, _, o_over hd Fu, hd.glo 17, Fu.kp, FunD.bindsN (ps := ["one", "other"]) Fu (fun _ _ _ _ _ _ us hl => match us, hl with | [_, _], _ => rfl)⟩, proper_run, arity_run⟩
theorem kw_over_10 (hd : HdOk fa fn tq exs K mg base) : KwOk P w K mg base (gxOf tq K mg) 6 "over" 2 ["other", "one"] [1, 0] f_over := by
  obtain ⟨fd, Fu⟩ := hd.df 15 (d := df15)
  exact kwOk (d_over hd) Fu (hd.glo 17) rfl (fun _ _ _ _ _ _ us hl => match us, hl with | [_, _], _ => rfl) (o_over hd Fu)
theorem sc_compared : FnScope ["one", "other"] ["one", "other"] (defScope s_compared) := C8.fnScope_by (by decide +kernel)
theorem o_compared {fd : FuncData} (hd : HdOk fa fn tq exs K mg base) (Fu : FunD K "compared" "compared" (defArgs s_compared) (defBody s_compared) (defScope s_compared) [] [] (He.ga K "compared") fd) : FnOk P w K mg base (L2.CX P w) 6 (He.ga K "compared") fd ["one", "other"] (spM (gxOf tq K mg) 2 f_compared) :=
  fnD (N := ["one", "other"]) (k := 5) (m := m_compared) rfl Fu sc_compared fun cdv A outer s H E F hc eG hr ft => by
    obtain ⟨G', Φ0, H0, Pl, rw⟩ := F; cases eG
    exact (bl_cons (sm_expr (em_callV ft (hr.mono (by decide)) (d_need_two hd) (lm_cons (em_var 0) (lm_cons (em_var 1) lm_nil)))) (bl_one (sm_ret (x_sub (x_int (hd.free 31) (lm_cons (em_callV ft (hr.mono (by decide)) (d_is_less hd) (lm_cons (em_var 1) (lm_cons (em_var 0) lm_nil))) lm_nil)) (x_int (hd.free 31) (lm_cons (em_callV ft (hr.mono (by decide)) (d_is_less hd) (lm_cons (em_var 0) (lm_cons (em_var 1) lm_nil))) lm_nil))))))
theorem d_compared (hd : HdOk fa fn tq exs K mg base) : DefOk P w K mg base (gxOf tq K mg) 6 "compared" 2 f_compared := by
  obtain ⟨fd, Fu⟩ := hd.df 16 (d := df16)
  exact ⟨⟨_, fd, _, o_compared hd Fu, hd.glo 18, Fu.kp, FunD.bindsN (ps := ["one", "other"]) Fu (fun _ _ _ _ _ _ us hl => match us, hl with | [_, _], _ => rfl)⟩, proper_run, arity_run⟩
theorem kw_compared_10 (hd : HdOk fa fn tq exs K mg base) : KwOk P w K mg base (gxOf tq K mg) 6 "compared" 2 ["other", "one"] [1, 0] f_compared := by
  obtain ⟨fd, Fu⟩ := hd.df 16 (d := df16)
  exact kwOk (d_compared hd) Fu (hd.glo 18) rfl (fun _ _ _ _ _ _ us hl => match us, hl with | [_, _], _ => rfl) (o_compared hd Fu)
theorem sc__law_vat : FnScope ["_law_script", "_law_cell"] ["_law_script"] (defScope s__law_vat) := C8.fnScope_by (by decide +kernel)
theorem o__law_vat {fd : FuncData} (hd : HdOk fa fn tq exs K mg base) (Fu : FunD K "_law_vat" "_law_vat" (defArgs s__law_vat) (defBody s__law_vat) (defScope s__law_vat) [] [] (He.ga K "_law_vat") fd) : FnOk P w K mg base (L2.CX P w) 1 (He.ga K "_law_vat") fd ["_law_script"] (spM (gxOf tq K mg) 1 f__law_vat) :=
  fnD (N := ["_law_script", "_law_cell"]) (k := 0) (m := m__law_vat) rfl Fu sc__law_vat fun cdv A outer s H E F hc eG hr ft => by
    obtain ⟨G', Φ0, H0, Pl, rw⟩ := F; cases eG
    exact (bl_one (sm_ret (em_lst (lm_cons (em_comp [("_law_cell", 1)] ft (im_seq ft (em_sl ft.K (em_var 0) om_none (om_some em_int))) (fun s H C cl fp ft => (gm_name 1 ft.nd)) (fun s H C cl fp ft => pts_yes) (fun s H C cl fp ft => (x_int (hd.free 31) (lm_cons (em_var 1) lm_nil)))) (lm_cons em_int (lm_cons em_int lm_nil))))))
theorem d__law_vat (hd : HdOk fa fn tq exs K mg base) : DefOk P w K mg base (gxOf tq K mg) 1 "_law_vat" 1 f__law_vat := by
  obtain ⟨fd, Fu⟩ := hd.df 17 (d := df17)
  exact ⟨⟨_, fd, _, o__law_vat hd Fu, hd.glo 19, Fu.kp, FunD.bindsN (ps := ["_law_script"]) Fu (fun _ _ _ _ _ _ us hl => match us, hl with | [_], _ => rfl)⟩, proper_run, arity_run⟩
theorem sc__law_dip : FnScope ["_law_vat_here", "_law_many", "_law_store", "_law_cells", "_law_spot", "_law_cell", "_law_mixed"] ["_law_vat_here", "_law_many"] (defScope s__law_dip) := C8.fnScope_by (by decide +kernel)
theorem o__law_dip {fd : FuncData} (hd : HdOk fa fn tq exs K mg base) (Fu : FunD K "_law_dip" "_law_dip" (defArgs s__law_dip) (defBody s__law_dip) (defScope s__law_dip) [] [] (He.ga K "_law_dip") fd) : FnOk P w K mg base (L2.CX P w) 1 (He.ga K "_law_dip") fd ["_law_vat_here", "_law_many"] (spM (gxOf tq K mg) 2 f__law_dip) :=
  fnD (N := ["_law_vat_here", "_law_many", "_law_store", "_law_cells", "_law_spot", "_law_cell", "_law_mixed"]) (k := 0) (m := m__law_dip) rfl Fu sc__law_dip fun cdv A outer s H E F hc eG hr ft => by
    obtain ⟨G', Φ0, H0, Pl, rw⟩ := F; cases eG
    exact (bl_cons (sm_if (t_gt (x_ix ft (em_var 0) em_int) em_int) (bl_cons (sm_set 2 ft.nd (x_ix ft (em_var 0) em_int)) (bl_cons (sm_setIx (x_div (x_int (hd.free 31) (lm_cons (em_var 2) lm_nil)) (em_var 1)) (em_var 0) em_int) (bl_one (sm_ret (x_mod (x_int (hd.free 31) (lm_cons (em_var 2) lm_nil)) (em_var 1)))))) bl_nil) (bl_cons (sm_par 3 4 ft.calm ft.nd (lm_cons (x_ix ft (em_var 0) em_int) (lm_cons (x_ix ft (em_var 0) em_int) lm_nil))) (bl_cons (sm_setIx (x_add ft (em_var 4) em_int) (em_var 0) em_int) (bl_cons (sm_set 5 ft.nd (x_add ft (x_mul em_int (em_var 4)) em_int)) (bl_cons (sm_if (t_ne ft (unitsOk hr) (em_var 3) (em_lst lm_nil)) (bl_one (sm_set 5 ft.nd (x_ix ft (em_var 3) (x_mod (x_int (hd.free 31) (lm_cons (em_var 4) lm_nil)) (x_len ft (hd.free 37) (lm_cons (em_var 3) lm_nil)))))) bl_nil) (bl_cons (sm_if (wm_and (t_lt (em_var 4) (x_len ft (hd.free 37) (lm_cons (em_var 3) lm_nil))) (wm_and1 (t_ge (x_abs (hd.free 38) (lm_cons (em_var 5) lm_nil)) (x_pow em_int em_int)))).pt (bl_cons (sm_set 2 ft.nd (x_add ft (x_mul em_int (x_sub (x_abs (hd.free 38) (lm_cons (em_var 5) lm_nil)) (x_pow em_int em_int))) (x_int (hd.free 31) (lm_cons (x_lt (em_var 5) em_int) lm_nil)))) (bl_cons (sm_setIx (x_div (x_int (hd.free 31) (lm_cons (em_var 2) lm_nil)) (em_var 1)) (em_var 0) em_int) (bl_one (sm_ret (x_mod (x_int (hd.free 31) (lm_cons (em_var 2) lm_nil)) (em_var 1)))))) bl_nil) (bl_cons (sm_set 6 ft.nd (x_mod (x_int (hd.free 31) (lm_cons (x_pow (x_add ft (x_add ft (x_mod (x_int (hd.free 31) (lm_cons (em_var 5) lm_nil)) em_int) (x_mul em_int (em_var 4))) em_int) em_int) lm_nil)) em_int)) (bl_cons (sm_set 6 ft.nd (x_mod (x_int (hd.free 31) (lm_cons (x_pow (x_add ft (x_add ft (x_mul (em_var 6) (x_add ft (x_mul em_int (em_var 4)) em_int)) (x_mul (x_mul em_int (em_var 4)) (em_var 4))) em_int) em_int) lm_nil)) em_int)) (bl_one (sm_ret (x_mod (x_int (hd.free 31) (lm_cons (x_div (em_var 6) em_int) lm_nil)) (em_var 1))))))))))))
theorem d__law_dip (hd : HdOk fa fn tq exs K mg base) : DefOk P w K mg base (gxOf tq K mg) 1 "_law_dip" 2 f__law_dip := by
  obtain ⟨fd, Fu⟩ := hd.df 18 (d := df18)
  exact ⟨⟨_, fd, _, o__law_dip hd Fu, hd.glo 20, Fu.kp, FunD.bindsN (ps := ["_law_vat_here", "_law_many"]) Fu (fun _ _ _ _ _ _ us hl => match us, hl with | [_, _], _ => rfl)⟩, proper_run, arity_run⟩
theorem sc__law_pick : FnScope ["_law_vat_here", "_law_some"] ["_law_vat_here", "_law_some"] (defScope s__law_pick) := C8.fnScope_by (by decide +kernel)
theorem o__law_pick {fd : FuncData} (hd : HdOk fa fn tq exs K mg base) (Fu : FunD K "_law_pick" "_law_pick" (defArgs s__law_pick) (defBody s__law_pick) (defScope s__law_pick) [] [] (He.ga K "_law_pick") fd) : FnOk P w K mg base (L2.CX P w) 2 (He.ga K "_law_pick") fd ["_law_vat_here", "_law_some"] (spM (gxOf tq K mg) 2 f__law_pick) :=
  fnD (N := ["_law_vat_here", "_law_some"]) (k := 1) (m := m__law_pick) rfl Fu sc__law_pick fun cdv A outer s H E F hc eG hr ft => by
    obtain ⟨G', Φ0, H0, Pl, rw⟩ := F; cases eG
    exact (bl_one (sm_ret (x_ix ft (em_var 1) (em_callL ft (hr.mono (by decide)) (d__law_dip hd) (lm_cons (em_var 0) (lm_cons (x_len ft (hd.free 37) (lm_cons (em_var 1) lm_nil)) lm_nil))))))
theorem d__law_pick (hd : HdOk fa fn tq exs K mg base) : DefOk P w K mg base (gxOf tq K mg) 2 "_law_pick" 2 f__law_pick := by
  obtain ⟨fd, Fu⟩ := hd.df 19 (d := df19)
  exact ⟨⟨_, fd, _, o__law_pick hd Fu, hd.glo 21, Fu.kp, FunD.bindsN (ps := ["_law_vat_here", "_law_some"]) Fu (fun _ _ _ _ _ _ us hl => match us, hl with | [_, _], _ => rfl)⟩, proper_run, arity_run⟩
theorem sc__law_shared : FnScope ["_law_one", "_law_other", "_law_tail", "_law_left", "_law_turn"] ["_law_one", "_law_other"] (defScope s__law_shared) := C8.fnScope_by (by decide +kernel)
theorem o__law_shared {fd : FuncData} (hd : HdOk fa fn tq exs K mg base) (Fu : FunD K "_law_shared" "_law_shared" (defArgs s__law_shared) (defBody s__law_shared) (defScope s__law_shared) [] [] (He.ga K "_law_shared") fd) : FnOk P w K mg base (L2.CX P w) 1 (He.ga K "_law_shared") fd ["_law_one", "_law_other"] (spM (gxOf tq K mg) 2 f__law_shared) :=
  fnD (N := ["_law_one", "_law_other", "_law_tail", "_law_left", "_law_turn"]) (k := 0) (m := m__law_shared) rfl Fu sc__law_shared fun cdv A outer s H E F hc eG hr ft => by
    obtain ⟨G', Φ0, H0, Pl, rw⟩ := F; cases eG
    exact (bl_cons (sm_par 2 3 ft.calm ft.nd (lm_cons (x_abs (hd.free 38) (lm_cons (em_var 0) lm_nil)) (lm_cons (x_abs (hd.free 38) (lm_cons (em_var 1) lm_nil)) lm_nil))) (bl_cons (sm_for ft (im_range1 (hd.free 39) (lm_cons em_int lm_nil)) (gm_name 4 ft.nd) (bl_cons (sm_if (t_eq ft (unitsOk hr) (em_var 2) em_int) (bl_one sm_break) bl_nil) (bl_one (sm_par 2 3 ft.calm ft.nd (lm_cons (x_mod (x_int (hd.free 31) (lm_cons (em_var 3) lm_nil)) (em_var 2)) (lm_cons (em_var 2) lm_nil)))))) (bl_one (sm_ret (em_var 3)))))
theorem d__law_shared (hd : HdOk fa fn tq exs K mg base) : DefOk P w K mg base (gxOf tq K mg) 1 "_law_shared" 2 f__law_shared := by
  obtain ⟨fd, Fu⟩ := hd.df 20 (d := df20)
  exact ⟨⟨_, fd, _, o__law_shared hd Fu, hd.glo 22, Fu.kp, FunD.bindsN (ps := ["_law_one", "_law_other"]) Fu (fun _ _ _ _ _ _ us hl => match us, hl with | [_, _], _ => rfl)⟩, proper_run, arity_run⟩
theorem sc__law_ratio : FnScope ["_law_vat_here", "_law_most", "_law_number", "_law_by", "_law_part"] ["_law_vat_here", "_law_most"] (defScope s__law_ratio) := C8.fnScope_by (by decide +kernel)
theorem o__law_ratio {fd : FuncData} (hd : HdOk fa fn tq exs K mg base) (Fu : FunD K "_law_ratio" "_law_ratio" (defArgs s__law_ratio) (defBody s__law_ratio) (defScope s__law_ratio) [] [] (He.ga K "_law_ratio") fd) : FnOk P w K mg base (L2.CX P w) 3 (He.ga K "_law_ratio") fd ["_law_vat_here", "_law_most"] (spM (gxOf tq K mg) 2 f__law_ratio) :=
  fnD (N := ["_law_vat_here", "_law_most", "_law_number", "_law_by", "_law_part"]) (k := 2) (m := m__law_ratio) rfl Fu sc__law_ratio fun cdv A outer s H E F hc eG hr ft => by
    obtain ⟨G', Φ0, H0, Pl, rw⟩ := F; cases eG
    exact (bl_cons (sm_par 2 3 ft.calm ft.nd (lm_cons (x_add ft (x_sub (em_callL ft (hr.mono (by decide)) (d__law_dip hd) (lm_cons (em_var 0) (lm_cons (x_sub (x_mul em_int (em_var 1)) em_int) lm_nil))) (em_var 1)) em_int) (lm_cons (x_add ft em_int (em_callL ft (hr.mono (by decide)) (d__law_dip hd) (lm_cons (em_var 0) (lm_cons (em_callL ft (hr.mono (by decide)) (d__law_pick hd) (lm_cons (em_var 0) (lm_cons (em_lst (lm_cons em_int (lm_cons (x_sub (em_var 1) em_int) (lm_cons (x_sub (em_var 1) em_int) lm_nil)))) lm_nil))) lm_nil)))) lm_nil))) (bl_cons (sm_set 4 ft.nd (em_callV ft (hr.mono (by decide)) (d__law_shared hd) (lm_cons (em_var 2) (lm_cons (em_var 3) lm_nil)))) (bl_one (sm_ret (em_tup (lm_cons (x_int (hd.free 31) (lm_cons (x_div (em_var 2) (em_var 4)) lm_nil)) (lm_cons (x_int (hd.free 31) (lm_cons (x_div (em_var 3) (em_var 4)) lm_nil)) lm_nil)))))))
theorem d__law_ratio (hd : HdOk fa fn tq exs K mg base) : DefOk P w K mg base (gxOf tq K mg) 3 "_law_ratio" 2 f__law_ratio := by
  obtain ⟨fd, Fu⟩ := hd.df 21 (d := df21)
  exact ⟨⟨_, fd, _, o__law_ratio hd Fu, hd.glo 23, Fu.kp, FunD.bindsN (ps := ["_law_vat_here", "_law_most"]) Fu (fun _ _ _ _ _ _ us hl => match us, hl with | [_, _], _ => rfl)⟩, proper_run, arity_run⟩
theorem sc__law_is : FnScope ["_law_told", "_law_number", "_law_by", "_law_part"] ["_law_told", "_law_number", "_law_by"] (defScope s__law_is) := C8.fnScope_by (by decide +kernel)
theorem o__law_is {fd : FuncData} (hd : HdOk fa fn tq exs K mg base) (Fu : FunD K "_law_is" "_law_is" (defArgs s__law_is) (defBody s__law_is) (defScope s__law_is) [] [] (He.ga K "_law_is") fd) : FnOk P w K mg base (L2.CX P w) 2 (He.ga K "_law_is") fd ["_law_told", "_law_number", "_law_by"] (spM (gxOf tq K mg) 3 f__law_is) :=
  fnD (N := ["_law_told", "_law_number", "_law_by", "_law_part"]) (k := 1) (m := m__law_is) rfl Fu sc__law_is fun cdv A outer s H E F hc eG hr ft => by
    obtain ⟨G', Φ0, H0, Pl, rw⟩ := F; cases eG
    exact (bl_cons (sm_if (wm_or (bm_not (bm_val (x_isi ft (isOk hd (hd.ex 1)) (hd.free 32) (lm_cons (em_var 0) (lm_cons (em_gty (hd.free 34)) lm_nil))))) (wm_or (t_ne ft (unitsOk hr) (x_len ft (hd.free 37) (lm_cons (em_var 0) lm_nil)) em_int) (wm_or1 (t_ne ft (unitsOk hr) (em_comp [("_law_part", 3)] ft (im_seq ft (em_var 0)) (fun s H C cl fp ft => (gm_name 3 ft.nd)) (fun s H C cl fp ft => (pts_m (wm_or (bm_not (bm_val (x_isi ft (isOk hd (hd.ex 1)) (hd.free 32) (lm_cons (em_var 3) (lm_cons (em_gty (hd.free 31)) lm_nil))))) (wm_or1 (bm_val (x_isi ft (isOk hd (hd.ex 1)) (hd.free 32) (lm_cons (em_var 3) (lm_cons (em_gty (hd.free 33)) lm_nil)))))).pt)) (fun s H C cl fp ft => (em_var 3))) (em_lst lm_nil))))).pt (bl_one (sm_ret em_bl)) bl_nil) (bl_one (sm_ret (em_and (x_gt (x_ix ft (em_var 0) em_int) em_int) (em_and (x_eq ft (unitsOk hr) (em_callV ft (hr.mono (by decide)) (d__law_shared hd) (lm_cons (x_ix ft (em_var 0) em_int) (lm_cons (x_ix ft (em_var 0) em_int) lm_nil))) em_int) (em_one (x_eq ft (unitsOk hr) (x_mul (x_ix ft (em_var 0) em_int) (em_var 2)) (x_mul (em_var 1) (x_ix ft (em_var 0) em_int)))))))))
theorem d__law_is (hd : HdOk fa fn tq exs K mg base) : DefOk P w K mg base (gxOf tq K mg) 2 "_law_is" 3 f__law_is := by
  obtain ⟨fd, Fu⟩ := hd.df 22 (d := df22)
  exact ⟨⟨_, fd, _, o__law_is hd Fu, hd.glo 24, Fu.kp, FunD.bindsN (ps := ["_law_told", "_law_number", "_law_by"]) Fu (fun _ _ _ _ _ _ us hl => match us, hl with | [_, _, _], _ => rfl)⟩, proper_run, arity_run⟩
theorem sc__law_sums_right : FnScope ["_law_one", "_law_other", "_law_a", "_law_b", "_law_c", "_law_d", "_law_total", "_law_less", "_law_product", "_law_part"] ["_law_one", "_law_other"] (defScope s__law_sums_right) := C8.fnScope_by (by decide +kernel)
theorem o__law_sums_right {fd : FuncData} (hd : HdOk fa fn tq exs K mg base) (Fu : FunD K "_law_sums_right" "_law_sums_right" (defArgs s__law_sums_right) (defBody s__law_sums_right) (defScope s__law_sums_right) [] [] (He.ga K "_law_sums_right") fd) : FnOk P w K mg base (L2.CX P w) 7 (He.ga K "_law_sums_right") fd ["_law_one", "_law_other"] (spM (gxOf tq K mg) 2 f__law_sums_right) :=
  fnD (N := ["_law_one", "_law_other", "_law_a", "_law_b", "_law_c", "_law_d", "_law_total", "_law_less", "_law_product", "_law_part"]) (k := 6) (m := m__law_sums_right) rfl Fu sc__law_sums_right fun cdv A outer s H E F hc eG hr ft => by
    obtain ⟨G', Φ0, H0, Pl, rw⟩ := F; cases eG
    exact (bl_cons (sm_asg (em_tup (lm_cons (em_var 0) (lm_cons (em_var 1) lm_nil))) (gm_tup 2 ft.K ft.calm (gsm_cons (gm_tup 2 ft.K ft.calm (gsm_cons (gm_name 2 ft.nd) (gsm_cons (gm_name 3 ft.nd) gsm_nil))) (gsm_cons (gm_tup 2 ft.K ft.calm (gsm_cons (gm_name 4 ft.nd) (gsm_cons (gm_name 5 ft.nd) gsm_nil))) gsm_nil)))) (bl_cons (sm_par3 6 7 8 ft.calm ft.nd (lm_cons (em_callV ft (hr.mono (by decide)) (d_plus hd) (lm_cons (em_var 0) (lm_cons (x_list ft (hd.free 35) (lm_cons (em_var 1) lm_nil)) lm_nil))) (lm_cons (em_callV ft (hr.mono (by decide)) (d_minus hd) (lm_cons (x_list ft (hd.free 35) (lm_cons (em_var 0) lm_nil)) (lm_cons (em_var 1) lm_nil))) (lm_cons (em_callK (ks := ["other", "one"]) (ix := [1, 0]) ft (hr.mono (by decide)) (kw_times_10 hd) (km_cons (em_var 1) (km_cons (em_var 0) km_nil))) lm_nil)))) (bl_cons (sm_if (wm_or (bm_not (bm_val (em_callV ft (hr.mono (by decide)) (d__law_is hd) (lm_cons (em_var 6) (lm_cons (x_add ft (x_mul (em_var 2) (em_var 5)) (x_mul (em_var 4) (em_var 3))) (lm_cons (x_mul (em_var 3) (em_var 5)) lm_nil)))))) (wm_or (bm_not (bm_val (em_callV ft (hr.mono (by decide)) (d__law_is hd) (lm_cons (em_var 7) (lm_cons (x_sub (x_mul (em_var 2) (em_var 5)) (x_mul (em_var 4) (em_var 3))) (lm_cons (x_mul (em_var 3) (em_var 5)) lm_nil)))))) (wm_or1 (bm_not (bm_val (em_callV ft (hr.mono (by decide)) (d__law_is hd) (lm_cons (em_var 8) (lm_cons (x_mul (em_var 2) (em_var 4)) (lm_cons (x_mul (em_var 3) (em_var 5)) lm_nil))))))))).pt (bl_one (sm_ret em_bl)) bl_nil) (bl_cons (sm_if (wm_or (t_ne ft (unitsOk hr) (em_callK (ks := ["other", "one"]) (ix := [1, 0]) ft (hr.mono (by decide)) (kw_plus_10 hd) (km_cons (em_var 0) (km_cons (em_var 1) km_nil))) (em_var 6)) (wm_or (t_ne ft (unitsOk hr) (em_callV ft (hr.mono (by decide)) (d_minus hd) (lm_cons (em_var 6) (lm_cons (em_var 1) lm_nil))) (em_var 0)) (wm_or (t_ne ft (unitsOk hr) (em_callV ft (hr.mono (by decide)) (d_plus hd) (lm_cons (em_var 7) (lm_cons (em_var 1) lm_nil))) (em_var 0)) (wm_or1 (t_ne ft (unitsOk hr) (em_callV ft (hr.mono (by decide)) (d_times hd) (lm_cons (em_var 1) (lm_cons (em_var 0) lm_nil))) (em_var 8)))))).pt (bl_one (sm_ret em_bl)) bl_nil) (bl_cons (sm_if (wm_or (t_ne ft (unitsOk hr) (em_callK (ks := ["other", "one"]) (ix := [1, 0]) ft (hr.mono (by decide)) (kw_minus_10 hd) (km_cons (em_var 0) (km_cons (em_var 1) km_nil))) (em_tup (lm_cons (x_neg (x_ix ft (em_var 7) em_int)) (lm_cons (x_ix ft (em_var 7) em_int) lm_nil)))) (wm_or1 (t_ne ft (unitsOk hr) (em_callV ft (hr.mono (by decide)) (d_minus hd) (lm_cons (em_var 0) (lm_cons (em_var 0) lm_nil))) (em_tup (lm_cons em_int (lm_cons em_int lm_nil)))))).pt (bl_one (sm_ret em_bl)) bl_nil) (bl_cons (sm_if (t_eq ft (unitsOk hr) (em_var 4) em_int) (bl_one (sm_ret (x_eq ft (unitsOk hr) (em_var 8) (em_tup (lm_cons em_int (lm_cons em_int lm_nil)))))) bl_nil) (bl_cons (sm_set 9 ft.nd (em_callV ft (hr.mono (by decide)) (d_over hd) (lm_cons (em_var 0) (lm_cons (em_var 1) lm_nil)))) (bl_one (sm_ret (em_and (em_callV ft (hr.mono (by decide)) (d__law_is hd) (lm_cons (em_var 9) (lm_cons (x_mul (em_var 2) (em_var 5)) (lm_cons (x_mul (em_var 3) (em_var 4)) lm_nil)))) (em_and (x_eq ft (unitsOk hr) (em_callV ft (hr.mono (by decide)) (d_times hd) (lm_cons (em_var 9) (lm_cons (em_var 1) lm_nil))) (em_var 0)) (em_and (x_eq ft (unitsOk hr) (em_callK (ks := ["other", "one"]) (ix := [1, 0]) ft (hr.mono (by decide)) (kw_over_10 hd) (km_cons (em_var 1) (km_cons (em_var 8) km_nil))) (em_var 0)) (em_one (x_eq ft (unitsOk hr) (em_callV ft (hr.mono (by decide)) (d_over hd) (lm_cons (em_var 1) (lm_cons (em_var 1) lm_nil))) (em_tup (lm_cons em_int (lm_cons em_int lm_nil)))))))))))))))))
theorem d__law_sums_right (hd : HdOk fa fn tq exs K mg base) : DefOk P w K mg base (gxOf tq K mg) 7 "_law_sums_right" 2 f__law_sums_right := by
  obtain ⟨fd, Fu⟩ := hd.df 23 (d := df23)
  exact ⟨⟨_, fd, _, o__law_sums_right hd Fu, hd.glo 25, Fu.kp, FunD.bindsN (ps := ["_law_one", "_law_other"]) Fu (fun _ _ _ _ _ _ us hl => match us, hl with | [_, _], _ => rfl)⟩, proper_run, arity_run⟩
theorem sc__law_wide_right : FnScope ["_law_vat_here", "_law_a", "_law_b", "_law_c", "_law_d", "_law_one", "_law_other"] ["_law_vat_here"] (defScope s__law_wide_right) := C8.fnScope_by (by decide +kernel)
theorem o__law_wide_right {fd : FuncData} (hd : HdOk fa fn tq exs K mg base) (Fu : FunD K "_law_wide_right" "_law_wide_right" (defArgs s__law_wide_right) (defBody s__law_wide_right) (defScope s__law_wide_right) [] [] (He.ga K "_law_wide_right") fd) : FnOk P w K mg base (L2.CX P w) 7 (He.ga K "_law_wide_right") fd ["_law_vat_here"] (spM (gxOf tq K mg) 1 f__law_wide_right) :=
  fnD (N := ["_law_vat_here", "_law_a", "_law_b", "_law_c", "_law_d", "_law_one", "_law_other"]) (k := 6) (m := m__law_wide_right) rfl Fu sc__law_wide_right fun cdv A outer s H E F hc eG hr ft => by
    obtain ⟨G', Φ0, H0, Pl, rw⟩ := F; cases eG
    exact (bl_cons (sm_asg (em_tup (lm_cons (em_callL ft (hr.mono (by decide)) (d__law_ratio hd) (lm_cons (em_var 0) (lm_cons (x_pow em_int em_int) lm_nil))) (lm_cons (em_callL ft (hr.mono (by decide)) (d__law_ratio hd) (lm_cons (em_var 0) (lm_cons (x_pow em_int em_int) lm_nil))) lm_nil))) (gm_tup 2 ft.K ft.calm (gsm_cons (gm_tup 2 ft.K ft.calm (gsm_cons (gm_name 1 ft.nd) (gsm_cons (gm_name 2 ft.nd) gsm_nil))) (gsm_cons (gm_tup 2 ft.K ft.calm (gsm_cons (gm_name 3 ft.nd) (gsm_cons (gm_name 4 ft.nd) gsm_nil))) gsm_nil)))) (bl_cons (sm_par 5 6 ft.calm ft.nd (lm_cons (em_tup (lm_cons (em_var 1) (lm_cons (em_var 2) lm_nil))) (lm_cons (em_tup (lm_cons (em_var 3) (lm_cons (em_var 4) lm_nil))) lm_nil))) (bl_cons (sm_if (wm_or (bm_not (bm_val (em_callV ft (hr.mono (by decide)) (d__law_is hd) (lm_cons (em_callV ft (hr.mono (by decide)) (d_plus hd) (lm_cons (em_var 5) (lm_cons (em_var 6) lm_nil))) (lm_cons (x_add ft (x_mul (em_var 1) (em_var 4)) (x_mul (em_var 3) (em_var 2))) (lm_cons (x_mul (em_var 2) (em_var 4)) lm_nil)))))) (wm_or1 (bm_not (bm_val (em_callV ft (hr.mono (by decide)) (d__law_is hd) (lm_cons (em_callV ft (hr.mono (by decide)) (d_minus hd) (lm_cons (em_var 5) (lm_cons (em_var 6) lm_nil))) (lm_cons (x_sub (x_mul (em_var 1) (em_var 4)) (x_mul (em_var 3) (em_var 2))) (lm_cons (x_mul (em_var 2) (em_var 4)) lm_nil)))))))).pt (bl_one (sm_ret em_bl)) bl_nil) (bl_cons (sm_if (wm_or (bm_not (bm_val (em_callV ft (hr.mono (by decide)) (d__law_is hd) (lm_cons (em_callV ft (hr.mono (by decide)) (d_times hd) (lm_cons (em_var 5) (lm_cons (em_var 6) lm_nil))) (lm_cons (x_mul (em_var 1) (em_var 3)) (lm_cons (x_mul (em_var 2) (em_var 4)) lm_nil)))))) (wm_or1 (t_ne ft (unitsOk hr) (em_callV ft (hr.mono (by decide)) (d_compared hd) (lm_cons (em_var 5) (lm_cons (em_var 6) lm_nil))) (x_sub (x_int (hd.free 31) (lm_cons (x_gt (x_mul (em_var 1) (em_var 4)) (x_mul (em_var 3) (em_var 2))) lm_nil)) (x_int (hd.free 31) (lm_cons (x_lt (x_mul (em_var 1) (em_var 4)) (x_mul (em_var 3) (em_var 2))) lm_nil)))))).pt (bl_one (sm_ret em_bl)) bl_nil) (bl_one (sm_ret (em_or (x_eq ft (unitsOk hr) (em_var 3) em_int) (em_one (em_callV ft (hr.mono (by decide)) (d__law_is hd) (lm_cons (em_callV ft (hr.mono (by decide)) (d_over hd) (lm_cons (em_var 5) (lm_cons (em_var 6) lm_nil))) (lm_cons (x_mul (em_var 1) (em_var 4)) (lm_cons (x_mul (em_var 2) (em_var 3)) lm_nil))))))))))))
theorem d__law_wide_right (hd : HdOk fa fn tq exs K mg base) : DefOk P w K mg base (gxOf tq K mg) 7 "_law_wide_right" 1 f__law_wide_right := by
  obtain ⟨fd, Fu⟩ := hd.df 24 (d := df24)
  exact ⟨⟨_, fd, _, o__law_wide_right hd Fu, hd.glo 26, Fu.kp, FunD.bindsN (ps := ["_law_vat_here"]) Fu (fun _ _ _ _ _ _ us hl => match us, hl with | [_], _ => rfl)⟩, proper_run, arity_run⟩
theorem sc__law_order_right : FnScope ["_law_one", "_law_other", "_law_left", "_law_right", "_law_due"] ["_law_one", "_law_other"] (defScope s__law_order_right) := C8.fnScope_by (by decide +kernel)
theorem o__law_order_right {fd : FuncData} (hd : HdOk fa fn tq exs K mg base) (Fu : FunD K "_law_order_right" "_law_order_right" (defArgs s__law_order_right) (defBody s__law_order_right) (defScope s__law_order_right) [] [] (He.ga K "_law_order_right") fd) : FnOk P w K mg base (L2.CX P w) 7 (He.ga K "_law_order_right") fd ["_law_one", "_law_other"] (spM (gxOf tq K mg) 2 f__law_order_right) :=
  fnD (N := ["_law_one", "_law_other", "_law_left", "_law_right", "_law_due"]) (k := 6) (m := m__law_order_right) rfl Fu sc__law_order_right fun cdv A outer s H E F hc eG hr ft => by
    obtain ⟨G', Φ0, H0, Pl, rw⟩ := F; cases eG
    exact (bl_cons (sm_par 2 3 ft.calm ft.nd (lm_cons (x_mul (x_ix ft (em_var 0) em_int) (x_ix ft (em_var 1) em_int)) (lm_cons (x_mul (x_ix ft (em_var 1) em_int) (x_ix ft (em_var 0) em_int)) lm_nil))) (bl_cons (sm_set 4 ft.nd (x_sub (x_int (hd.free 31) (lm_cons (x_gt (em_var 2) (em_var 3)) lm_nil)) (x_int (hd.free 31) (lm_cons (x_lt (em_var 2) (em_var 3)) lm_nil)))) (bl_cons (sm_if (wm_or (t_ne ft (unitsOk hr) (em_callV ft (hr.mono (by decide)) (d_compared hd) (lm_cons (em_var 0) (lm_cons (em_var 1) lm_nil))) (em_var 4)) (wm_or (t_ne ft (unitsOk hr) (em_callK (ks := ["other", "one"]) (ix := [1, 0]) ft (hr.mono (by decide)) (kw_compared_10 hd) (km_cons (x_list ft (hd.free 35) (lm_cons (em_var 0) lm_nil)) (km_cons (em_var 1) km_nil))) (x_neg (em_var 4))) (wm_or1 (t_ne ft (unitsOk hr) (em_callV ft (hr.mono (by decide)) (d_compared hd) (lm_cons (em_var 0) (lm_cons (em_var 0) lm_nil))) em_int)))).pt (bl_one (sm_ret em_bl)) bl_nil) (bl_one (sm_ret (em_and (x_eq ft (unitsOk hr) (em_callV ft (hr.mono (by decide)) (d_compared hd) (lm_cons (em_tup (lm_cons (x_neg (x_ix ft (em_var 0) em_int)) (lm_cons (x_ix ft (em_var 0) em_int) lm_nil))) (lm_cons (em_tup (lm_cons (x_neg (x_ix ft (em_var 1) em_int)) (lm_cons (x_ix ft (em_var 1) em_int) lm_nil))) lm_nil))) (x_neg (em_var 4))) (em_one (x_isi ft (isOk hd (hd.ex 1)) (hd.free 32) (lm_cons (em_callV ft (hr.mono (by decide)) (d_compared hd) (lm_cons (em_var 0) (lm_cons (em_var 1) lm_nil))) (lm_cons (em_gty (hd.free 31)) lm_nil))))))))))
theorem d__law_order_right (hd : HdOk fa fn tq exs K mg base) : DefOk P w K mg base (gxOf tq K mg) 7 "_law_order_right" 2 f__law_order_right := by
  obtain ⟨fd, Fu⟩ := hd.df 25 (d := df25)
  exact ⟨⟨_, fd, _, o__law_order_right hd Fu, hd.glo 27, Fu.kp, FunD.bindsN (ps := ["_law_one", "_law_other"]) Fu (fun _ _ _ _ _ _ us hl => match us, hl with | [_, _], _ => rfl)⟩, proper_run, arity_run⟩
theorem sc__law_heard : FnScope ["_law_ask", "_law_caught", "error"] ["_law_ask"] (defScope s__law_heard) := C8.fnScope_by (by decide +kernel)
theorem gv__law_heard {k : Nat} (hd : HdOk fa fn tq exs K mg base) : GivOk P w K mg base (gxOf tq K mg) k "_law_heard" g__law_heard := by
  obtain ⟨fd, Fu⟩ := hd.df 26 (d := df26)
  exact givOk (N := ["_law_ask", "_law_caught", "error"]) (a := "_law_ask") (mt := m__law_heard) rfl Fu (hd.glo 28) sc__law_heard (by decide) (by decide) (fun _ _ _ _ _ _ us hl => match us, hl with | [_], _ => rfl) (fun cdv A outer s H E F o eG hr act ft => by
    obtain ⟨G', Φ0, H0, Pl, rw⟩ := F; cases eG
    exact (bl_cons (sm_set 1 ft.nd em_non) (bl_cons (sm_try 2 ft rfl rfl rfl ⟨rfl, by decide, .inl (hd.cat (hd.ex 3))⟩ (catOk hd (hd.ex 3)) (fun W pn xe ft => (bl_one (sm_expr (act _ _ _ _ _ ft)))) (fun a pn => (bl_one (sm_set 1 ft.nd (em_var 2))))) (bl_cons (sm_if (bm_val (x_isi ft (isOk hd (hd.ex 1)) (hd.free 32) (lm_cons (em_var 1) (lm_cons (em_gcls globOk (hd.glo 1)) lm_nil)))) (bl_one (sm_ret (em_fld (fldOk hd (hd.ex 2)) (em_var 1)))) bl_nil) (bl_one (sm_ret (em_if (t_is (em_var 1) em_non) em_non em_int)))))))
theorem sc__law_refused_right : FnScope ["_law_vat_here", "_law_one", "_law_bad", "_law_odd", "_law_ill", "_law_ask", "_law_heard_here"] ["_law_vat_here", "_law_one"] (defScope s__law_refused_right) := C8.fnScope_by (by decide +kernel)
theorem ftOk__law_refused_right (hd : HdOk fa fn tq exs K mg base) : ∀ g mf, ft__law_refused_right g = some mf → DefOk P w K mg base (gxOf tq K mg) 6 g 2 mf := fun g mf h => by
  have hm := PySem.mem_of_lookup h
  simp only [List.mem_cons, Prod.mk.injEq, List.not_mem_nil, or_false] at hm
  rcases hm with ⟨rfl, rfl⟩ | ⟨rfl, rfl⟩ | ⟨rfl, rfl⟩ | ⟨rfl, rfl⟩ | ⟨rfl, rfl⟩
  · exact (d_plus hd).up (by decide)
  · exact (d_minus hd).up (by decide)
  · exact (d_times hd).up (by decide)
  · exact (d_over hd).up (by decide)
  · exact (d_compared hd).up (by decide)
theorem o__law_refused_right {fd : FuncData} (hd : HdOk fa fn tq exs K mg base) (Fu : FunD K "_law_refused_right" "_law_refused_right" (defArgs s__law_refused_right) (defBody s__law_refused_right) (defScope s__law_refused_right) [] [] (He.ga K "_law_refused_right") fd) : FnOk P w K mg base (L2.CX P w) 9 (He.ga K "_law_refused_right") fd ["_law_vat_here", "_law_one"] (spM (gxOf tq K mg) 2 f__law_refused_right) :=
  fnD (N := ["_law_vat_here", "_law_one", "_law_bad", "_law_odd", "_law_ill", "_law_ask", "_law_heard_here"]) (k := 8) (m := m__law_refused_right) rfl Fu sc__law_refused_right fun cdv A outer s H E F hc eG hr ft => by
    obtain ⟨G', Φ0, H0, Pl, rw⟩ := F; cases eG
    exact (bl_cons (sm_set 2 ft.nd (em_lst (lm_cons em_non (lm_cons em_int (lm_cons em_str (lm_cons (em_tup (lm_cons em_int lm_nil)) (lm_cons (em_tup (lm_cons em_int (lm_cons em_int (lm_cons em_int lm_nil)))) (lm_cons (em_tup (lm_cons em_int (lm_cons em_int lm_nil))) (lm_cons (em_tup (lm_cons em_int (lm_cons em_int lm_nil))) (lm_cons (em_tup (lm_cons em_int (lm_cons em_int lm_nil))) (lm_cons (em_tup (lm_cons em_int (lm_cons em_int lm_nil))) (lm_cons (em_tup (lm_cons em_int (lm_cons (x_neg em_int) lm_nil))) (lm_cons (em_tup (lm_cons em_bl (lm_cons em_int lm_nil))) (lm_cons (em_tup (lm_cons em_int (lm_cons em_bl lm_nil))) (lm_cons (em_tup (lm_cons em_str (lm_cons em_int lm_nil))) (lm_cons (em_lst (lm_cons (em_lst (lm_cons em_int lm_nil)) (lm_cons em_int lm_nil))) (lm_cons em_dic (lm_cons (em_tup (lm_cons (x_ix ft (em_var 1) em_int) (lm_cons (x_neg (x_ix ft (em_var 1) em_int)) lm_nil))) lm_nil)))))))))))))))))) (bl_cons (sm_asg (em_tup (lm_cons (em_callL ft (hr.mono (by decide)) (d__law_pick hd) (lm_cons (em_var 0) (lm_cons (em_var 2) lm_nil))) (lm_cons (em_callL ft (hr.mono (by decide)) (d__law_pick hd) (lm_cons (em_var 0) (lm_cons (em_var 2) lm_nil))) lm_nil))) (gm_tup 2 ft.K ft.calm (gsm_cons (gm_name 3 ft.nd) (gsm_cons (gm_name 4 ft.nd) gsm_nil)))) (bl_cons (sm_for ft (im_seq ft (em_tup (lm_cons (em_gfn globOk (hd.glo 14)) (lm_cons (em_gfn globOk (hd.glo 15)) (lm_cons (em_gfn globOk (hd.glo 16)) (lm_cons (em_gfn globOk (hd.glo 17)) (lm_cons (em_gfn globOk (hd.glo 18)) lm_nil))))))) (gm_name 5 ft.nd) (bl_cons (sm_set 6 ft.nd (em_lst (lm_cons (em_lam (k := 6) [3, 4, 5] ft (hr.mono (by decide)) (gv__law_heard hd) (tabOk hd Fu hc 0 rfl rfl (tabU hd)) rfl (by decide) (hbody := fun A outer s H E f c' F' W' eG hr ft => by obtain ⟨G', Φ0', H0', Pl', rw'⟩ := F'; cases eG; exact (em_callF ft globOk (hr.mono (by decide) : Room 6 _) (ftOk__law_refused_right hd) 5 (lm_cons (em_var 3) (lm_cons (em_var 4) lm_nil))))) lm_nil))) (bl_cons (sm_expr (em_append (em_var 6) (lm_cons (em_lam (k := 6) [1, 4, 5] ft (hr.mono (by decide)) (gv__law_heard hd) (tabOk hd Fu hc 0 rfl rfl (tabU hd)) rfl (by decide) (hbody := fun A outer s H E f c' F' W' eG hr ft => by obtain ⟨G', Φ0', H0', Pl', rw'⟩ := F'; cases eG; exact (em_callF ft globOk (hr.mono (by decide) : Room 6 _) (ftOk__law_refused_right hd) 5 (lm_cons (em_var 1) (lm_cons (em_var 4) lm_nil))))) lm_nil))) (bl_cons (sm_expr (em_append (em_var 6) (lm_cons (em_lam (k := 6) [1, 3, 5] ft (hr.mono (by decide)) (gv__law_heard hd) (tabOk hd Fu hc 0 rfl rfl (tabU hd)) rfl (by decide) (hbody := fun A outer s H E f c' F' W' eG hr ft => by obtain ⟨G', Φ0', H0', Pl', rw'⟩ := F'; cases eG; exact (em_callF ft globOk (hr.mono (by decide) : Room 6 _) (ftOk__law_refused_right hd) 5 (lm_cons (em_var 3) (lm_cons (em_var 1) lm_nil))))) lm_nil))) (bl_one (sm_if (t_ne ft (unitsOk hr) (em_var 6) (em_lst (lm_cons em_str (lm_cons em_str (lm_cons em_str lm_nil))))) (bl_one (sm_ret em_bl)) bl_nil)))))) (bl_cons (sm_set 6 ft.nd (em_lst (lm_cons (em_lam (k := 6) [1] ft (hr.mono (by decide)) (gv__law_heard hd) (tabOk hd Fu hc 0 rfl rfl (tabU hd)) rfl (by decide) (hbody := fun A outer s H E f c' F' W' eG hr ft => by obtain ⟨G', Φ0', H0', Pl', rw'⟩ := F'; cases eG; exact (em_callV ft (hr.mono (by decide)) (d_over hd) (lm_cons (em_var 1) (lm_cons (em_tup (lm_cons em_int (lm_cons em_int lm_nil))) lm_nil))))) lm_nil))) (bl_cons (sm_expr (em_append (em_var 6) (lm_cons (em_lam (k := 6) [3] ft (hr.mono (by decide)) (gv__law_heard hd) (tabOk hd Fu hc 0 rfl rfl (tabU hd)) rfl (by decide) (hbody := fun A outer s H E f c' F' W' eG hr ft => by obtain ⟨G', Φ0', H0', Pl', rw'⟩ := F'; cases eG; exact (em_callV ft (hr.mono (by decide)) (d_over hd) (lm_cons (em_var 3) (lm_cons (em_tup (lm_cons em_int (lm_cons em_int lm_nil))) lm_nil))))) lm_nil))) (bl_one (sm_ret (x_eq ft (unitsOk hr) (em_var 6) (em_lst (lm_cons em_str (lm_cons em_str lm_nil)))))))))))
theorem d__law_refused_right (hd : HdOk fa fn tq exs K mg base) : DefOk P w K mg base (gxOf tq K mg) 9 "_law_refused_right" 2 f__law_refused_right := by
  obtain ⟨fd, Fu⟩ := hd.df 27 (d := df27)
  exact ⟨⟨_, fd, _, o__law_refused_right hd Fu, hd.glo 29, Fu.kp, FunD.bindsN (ps := ["_law_vat_here", "_law_one"]) Fu (fun _ _ _ _ _ _ us hl => match us, hl with | [_, _], _ => rfl)⟩, proper_run, arity_run⟩
theorem sc_law : FnScope ["_law_script", "_law_vat_here", "_law_turn", "_law_one", "_law_other", "_law_each", "_law_third"] ["_law_script"] (defScope s_law) := C8.fnScope_by (by decide +kernel)
theorem o_law {fd : FuncData} (hd : HdOk fa fn tq exs K mg base) (Fu : FunD K "law" "law" (defArgs s_law) (defBody s_law) (defScope s_law) [] [] (He.ga K "law") fd) : FnOk P w K mg base (L2.CX P w) 10 (He.ga K "law") fd ["_law_script"] (spM (gxOf tq K mg) 1 f_law) :=
  fnD (N := ["_law_script", "_law_vat_here", "_law_turn", "_law_one", "_law_other", "_law_each", "_law_third"]) (k := 9) (m := m_law) rfl Fu sc_law fun cdv A outer s H E F hc eG hr ft => by
    obtain ⟨G', Φ0, H0, Pl, rw⟩ := F; cases eG
    exact (bl_cons (sm_set 1 ft.nd (em_callV ft (hr.mono (by decide)) (d__law_vat hd) (lm_cons (em_var 0) lm_nil))) (bl_cons (sm_for ft (im_range1 (hd.free 39) (lm_cons em_int lm_nil)) (gm_name 2 ft.nd) (bl_cons (sm_asg (em_comp [("_law_each", 5)] ft (im_range1 (hd.free 39) (lm_cons em_int lm_nil)) (fun s H C cl fp ft => (gm_name 5 ft.nd)) (fun s H C cl fp ft => pts_yes) (fun s H C cl fp ft => (em_callL ft (hr.mono (by decide)) (d__law_ratio hd) (lm_cons (em_var 1) (lm_cons (em_callL ft (hr.mono (by decide)) (d__law_pick hd) (lm_cons (em_var 1) (lm_cons (em_lst (lm_cons em_int (lm_cons em_int (lm_cons em_int (lm_cons em_int (lm_cons em_int lm_nil)))))) lm_nil))) lm_nil))))) (gm_tup 2 ft.K ft.calm (gsm_cons (gm_name 3 ft.nd) (gsm_cons (gm_name 4 ft.nd) gsm_nil)))) (bl_cons (sm_if (wm_or (bm_not (bm_val (em_callV ft (hr.mono (by decide)) (d__law_sums_right hd) (lm_cons (em_var 3) (lm_cons (em_var 4) lm_nil))))) (wm_or (bm_not (bm_val (em_callV ft (hr.mono (by decide)) (d__law_order_right hd) (lm_cons (em_var 3) (lm_cons (em_var 4) lm_nil))))) (wm_or1 (bm_not (bm_val (em_callL ft (hr.mono (by decide)) (d__law_refused_right hd) (lm_cons (em_var 1) (lm_cons (em_var 3) lm_nil)))))))).pt (bl_one (sm_ret em_bl)) bl_nil) (bl_cons (sm_set 6 ft.nd (em_callL ft (hr.mono (by decide)) (d__law_ratio hd) (lm_cons (em_var 1) (lm_cons em_int lm_nil)))) (bl_cons (sm_if (wm_or (t_ne ft (unitsOk hr) (em_callV ft (hr.mono (by decide)) (d_plus hd) (lm_cons (em_callV ft (hr.mono (by decide)) (d_plus hd) (lm_cons (em_var 3) (lm_cons (em_var 4) lm_nil))) (lm_cons (em_var 6) lm_nil))) (em_callV ft (hr.mono (by decide)) (d_plus hd) (lm_cons (em_var 3) (lm_cons (em_callV ft (hr.mono (by decide)) (d_plus hd) (lm_cons (em_var 4) (lm_cons (em_var 6) lm_nil))) lm_nil)))) (wm_or1 (bm_not (bm_val (em_callL ft (hr.mono (by decide)) (d__law_wide_right hd) (lm_cons (em_var 1) lm_nil)))))).pt (bl_one (sm_ret em_bl)) bl_nil) (bl_one (sm_if (t_ne ft (unitsOk hr) (em_callV ft (hr.mono (by decide)) (d_times hd) (lm_cons (em_callV ft (hr.mono (by decide)) (d_plus hd) (lm_cons (em_var 3) (lm_cons (em_var 4) lm_nil))) (lm_cons (em_var 6) lm_nil))) (em_callV ft (hr.mono (by decide)) (d_plus hd) (lm_cons (em_callV ft (hr.mono (by decide)) (d_times hd) (lm_cons (em_var 3) (lm_cons (em_var 6) lm_nil))) (lm_cons (em_callV ft (hr.mono (by decide)) (d_times hd) (lm_cons (em_var 4) (lm_cons (em_var 6) lm_nil))) lm_nil)))) (bl_one (sm_ret em_bl)) bl_nil))))))) (bl_one (sm_ret (x_eq ft (unitsOk hr) (em_callV ft (hr.mono (by decide)) (d_over hd) (lm_cons (em_tup (lm_cons em_int (lm_cons em_int lm_nil))) (lm_cons (em_tup (lm_cons (x_neg em_int) (lm_cons em_int lm_nil))) lm_nil))) (em_tup (lm_cons (x_neg em_int) (lm_cons em_int lm_nil))))))))
theorem d_law (hd : HdOk fa fn tq exs K mg base) : DefOk P w K mg base (gxOf tq K mg) 10 "law" 1 f_law := by
  obtain ⟨fd, Fu⟩ := hd.df 28 (d := df28)
  exact ⟨⟨_, fd, _, o_law hd Fu, hd.glo 30, Fu.kp, FunD.bindsN (ps := ["_law_script"]) Fu (fun _ _ _ _ _ _ us hl => match us, hl with | [_], _ => rfl)⟩, proper_run, arity_run⟩
end
end
end K04

namespace K04
open PySem PySem.Spec PyProof.Rows L2 Mi
theorem fit_of {n : Nat} (h : n ≤ 1000) : fitL n = some () := by
  unfold fitL
  rw [if_pos]
  rw [sizeLine_eq]; omega
theorem atI_0 {α : Type} (a : α) (l : List α) : atI (a :: l) 0 = some a := by simp [atI, ixN]
theorem atI_1 {α : Type} (a b : α) (l : List α) : atI (a :: b :: l) 1 = some b := by
  have h : (1 : Int) < ((a :: b :: l).length : Int) := by simp only [List.length_cons]; omega
  simp only [atI, ixN, h, if_true]
  rfl
theorem atI_2 {α : Type} (a b c : α) (l : List α) : atI (a :: b :: c :: l) 2 = some c := by
  have h : (2 : Int) < ((a :: b :: c :: l).length : Int) := by simp only [List.length_cons]; omega
  simp only [atI, ixN, h, if_true]
  rfl
theorem mul_fits {i j : Int} (h1 : i.natAbs < 2 ^ 1000) (h2 : j.natAbs < 2 ^ 1000) : mulFits i j = true := by
  have lg : ∀ n : Nat, n < 2 ^ 1000 → n.log2 < 1000 := fun n h => by
    by_cases hn : n = 0
    · subst hn; decide
    · exact (Nat.log2_lt hn).mpr h
  have a := lg _ h1
  have b := lg _ h2
  unfold mulFits
  rw [decide_eq_true (by omega : i.natAbs.log2 + j.natAbs.log2 < 1000000), Bool.true_or]
theorem mul_ok {i j : Int} (h1 : i.natAbs < 2 ^ 1000) (h2 : j.natAbs < 2 ^ 1000) : fMul (.int i) (.int j) = some (.val (.int (i * j))) := by
  simp only [fMul, mul_fits h1 h2, if_true, sInt]
theorem eq_int (i j : Int) : fEq (.int i) (.int j) = some (.val (.bl (i == j))) := by
  simp [fEq, eqD, D.py, SeqAt.shaped, PyData.canLay0, PyData.depth, PyData.eqv]
theorem ne_int (i j : Int) : fNe (.int i) (.int j) = some (.val (.bl (!(i == j)))) := by
  simp [fNe, eqD, D.py, SeqAt.shaped, PyData.canLay0, PyData.depth, PyData.eqv]
theorem ne_pair (a b c d : Int) : fNe (.tup [.int a, .int b]) (.tup [.int c, .int d]) = some (.val (.bl (!((a == c) && (b == d))))) := by
  simp [fNe, eqD, D.py, D.pys, SeqAt.shaped, PyData.canLay0, PyData.depth, PyData.canLayAll0, PyData.depthAll, PyData.eqv, PyData.eqvAll]
theorem eq_pair (a b c d : Int) : fEq (.tup [.int a, .int b]) (.tup [.int c, .int d]) = some (.val (.bl ((a == c) && (b == d)))) := by
  simp [fEq, eqD, D.py, D.pys, SeqAt.shaped, PyData.canLay0, PyData.depth, PyData.canLayAll0, PyData.depthAll, PyData.eqv, PyData.eqvAll]
theorem mod_ok {i j : Int} (h : 0 < j) : fMod (.int i) (.int j) = some (.val (.int (i % j))) := by
  simp only [fMod, h, if_true, sInt]
theorem abs_eq (i : Int) : (if i < 0 then -i else i) = (i.natAbs : Int) := by
  split <;> omega
theorem div_ok {i j : Int} (h : j ≠ 0) (h2 : j.natAbs < 2 ^ 1000) : fDiv (.int i) (.int j) = some (.val (.int (i.fdiv j))) := by
  have lg : j.natAbs.log2 < 9000 := by
    have := (Nat.log2_lt (n := j.natAbs) (k := 1000) (by omega)).mpr h2
    omega
  by_cases hp : 0 < j
  · simp only [fDiv, hp, lg, true_and, if_true, sInt]
    rw [Int.fdiv_eq_ediv_of_nonneg i (by omega)]
  · have hn : j < 0 := by omega
    simp only [fDiv, hp, hn, lg, false_and, true_and, if_false, if_true, sInt]
/-! #### loops -/
theorem while_end {c : M Bool} {body : M Fl} {τ τ1 : List Mi.S} (h : c τ = .ok (false, τ1)) : sWhile c body τ = .ok (.nx, τ1) := by
  have e : whileN c body 1 τ = .ok (some .nx, τ1) := by
    simp only [whileN, M.bnd, h, M.ret, Bool.false_eq_true, if_false]
  rw [while_eq (n := 1) (fun τ' z => by rw [e] at z; cases z), e]
theorem while_step {c : M Bool} {body : M Fl} {τ τ1 τ2 : List Mi.S} {r : R (Fl × List Mi.S)} {n : Nat} (h : c τ = .ok (true, τ1)) (hb : body τ1 = .ok (.nx, τ2)) {f : Fl} {τ3 : List Mi.S} (hw : whileN c body n τ2 = .ok (some f, τ3)) : whileN c body (n + 1) τ = .ok (some f, τ3) := by
  simp only [whileN, M.bnd, h, hb, if_true]
  exact hw
theorem while_ok {c : M Bool} {body : M Fl} {τ τ' : List Mi.S} {n : Nat} {f : Fl} (h : whileN c body n τ = .ok (some f, τ')) : sWhile c body τ = .ok (f, τ') := by
  rw [while_eq (n := n) (fun τ' z => by rw [h] at z; cases z), h]
theorem euclid (a b c : Mi.S) : ∀ (n x y : Nat), y < n → whileN (bVal (eOp fNe (eVar 4) (eLit (.int 0)))) (sPar 3 4 (lCons (eVar 4) (lCons (eOp fMod (eVar 3) (eVar 4)) (lNil)))) n [a, b, c, .val (.int x), .val (.int y)] = .ok (some .nx, [a, b, c, .val (.int (Nat.gcd x y)), .val (.int 0)])
  | 0, x, y, h => absurd h (Nat.not_lt_zero _)
  | n + 1, x, y, h => by
    by_cases hy : y = 0
    · subst hy
      simp only [whileN, ne_int, bnd_ap, of_ap, seq_ap, asg_ap, ret_ap, retN_ap, sif_ap, expr_ap, par_ap, par3_ap, asgT_ap, nil_ap, brk_ap, cnt_ap, give_val, give_own, give_ali, take_val, take_own, take_ali, ta_nil, ta_cons, pk_val, pk_own, pk_ali, pa_nil', pa_cons', var_ap, lit_ap, op_ap, un_ap, cb_ap, lc_ap, ln_ap, tup_ap, lst_ap, cv_ap, ck_ap, cl_ap, and_ap, or_ap, not_ap, eif_ap, bval_ap, bnot_ap, band_ap, bor_ap, gnam_ap, gtup_ap, gend_ap, gcons_ap, rng_ap, for_ap, loop_nil, setIx_ap, run_ap, M.ret, unpk, asB, back, retS, fit_of, sInt, sBl, fIx, fLen, fAbs, fInt, fList, Mi.isNon, fIsN, fNotN, fCmp, fLt, fLe, fGt, fGe, fAdd, fSub, fNeg, O.frz, Mi.pick, List.getElem?_cons_zero, List.getElem?_cons_succ, List.getElem?_nil, List.set_cons_zero, List.set_cons_succ, List.map_cons, List.map_nil, List.length_cons, List.length_nil, List.replicate_succ, List.replicate_zero, List.cons_append, List.nil_append, Option.map_some, Option.map_none, if_true, if_false, Bool.false_eq_true, Bool.not_true, Bool.not_false, decide_true, decide_false, reduceIte, ne_eq, not_true_eq_false, not_false_eq_true, List.getD_cons_zero, List.getD_cons_succ, Nat.reduceAdd, Nat.reduceSub, Nat.reduceLeDiff, Nat.reduceEqDiff, atI_0, atI_1, atI_2]
      simp
    · have h0 : (0 : Int) < (y : Int) := by omega
      have hb : (((y : Int) == 0) = false) := by simpa using hy
      have ih := euclid a b c n y (x % y) (by have := Nat.mod_lt x (by omega : y > 0); omega)
      have e : ((x : Int) % (y : Int)) = ((x % y : Nat) : Int) := by omega
      simp only [whileN, ne_int, hb, mod_ok h0, e, bnd_ap, of_ap, seq_ap, asg_ap, ret_ap, retN_ap, sif_ap, expr_ap, par_ap, par3_ap, asgT_ap, nil_ap, brk_ap, cnt_ap, give_val, give_own, give_ali, take_val, take_own, take_ali, ta_nil, ta_cons, pk_val, pk_own, pk_ali, pa_nil', pa_cons', var_ap, lit_ap, op_ap, un_ap, cb_ap, lc_ap, ln_ap, tup_ap, lst_ap, cv_ap, ck_ap, cl_ap, and_ap, or_ap, not_ap, eif_ap, bval_ap, bnot_ap, band_ap, bor_ap, gnam_ap, gtup_ap, gend_ap, gcons_ap, rng_ap, for_ap, loop_nil, setIx_ap, run_ap, M.ret, unpk, asB, back, retS, fit_of, sInt, sBl, fIx, fLen, fAbs, fInt, fList, Mi.isNon, fIsN, fNotN, fCmp, fLt, fLe, fGt, fGe, fAdd, fSub, fNeg, O.frz, Mi.pick, List.getElem?_cons_zero, List.getElem?_cons_succ, List.getElem?_nil, List.set_cons_zero, List.set_cons_succ, List.map_cons, List.map_nil, List.length_cons, List.length_nil, List.replicate_succ, List.replicate_zero, List.cons_append, List.nil_append, Option.map_some, Option.map_none, if_true, if_false, Bool.false_eq_true, Bool.not_true, Bool.not_false, decide_true, decide_false, reduceIte, ne_eq, not_true_eq_false, not_false_eq_true, List.getD_cons_zero, List.getD_cons_succ, Nat.reduceAdd, Nat.reduceSub, Nat.reduceLeDiff, Nat.reduceEqDiff, atI_0, atI_1, atI_2]
      rw [ih]
      rw [Nat.gcd_comm x y, Nat.gcd_rec y x, Nat.gcd_comm (x % y) y]
theorem measure_in {d : D} (a b : Int) (h : items d = some [.int a, .int b]) : f_measure [.val d] = .ok (.val (.int (Nat.gcd a.natAbs b.natAbs)), [.non]) := by
  have w : ∀ (p q r : Mi.S) (x y : Nat), sWhile (bVal (eOp fNe (eVar 4) (eLit (.int 0)))) (sPar 3 4 (lCons (eVar 4) (lCons (eOp fMod (eVar 3) (eVar 4)) (lNil)))) [p, q, r, .val (.int x), .val (.int y)] = .ok (.nx, [p, q, r, .val (.int (Nat.gcd x y)), .val (.int 0)]) := fun p q r x y => while_ok (euclid p q r (y + 1) x y (Nat.lt_succ_self y))
  have w0 : ∀ (p q r : Mi.S) (y : Nat), sWhile (bVal (eOp fNe (eVar 4) (eLit (.int 0)))) (sPar 3 4 (lCons (eVar 4) (lCons (eOp fMod (eVar 3) (eVar 4)) (lNil)))) [p, q, r, .val (.int 0), .val (.int y)] = .ok (.nx, [p, q, r, .val (.int y), .val (.int 0)]) := fun p q r y => by
    have := w p q r 0 y
    rw [Nat.gcd_zero_left] at this
    exact this
  have it : iSeq (eVar 0) [Mi.S.val d, .val (.int 0), .non, .non, .non] = .ok (([.int a, .int b], noPin), [Mi.S.val d, .val (.int 0), .non, .non, .non]) := by
    simp only [iSeq, h, bnd_ap, of_ap, seq_ap, asg_ap, ret_ap, retN_ap, sif_ap, expr_ap, par_ap, par3_ap, asgT_ap, nil_ap, brk_ap, cnt_ap, give_val, give_own, give_ali, take_val, take_own, take_ali, ta_nil, ta_cons, pk_val, pk_own, pk_ali, pa_nil', pa_cons', var_ap, lit_ap, op_ap, un_ap, cb_ap, lc_ap, ln_ap, tup_ap, lst_ap, cv_ap, ck_ap, cl_ap, and_ap, or_ap, not_ap, eif_ap, bval_ap, bnot_ap, band_ap, bor_ap, gnam_ap, gtup_ap, gend_ap, gcons_ap, rng_ap, for_ap, loop_nil, setIx_ap, run_ap, M.ret, unpk, asB, back, retS, fit_of, sInt, sBl, fIx, fLen, fAbs, fInt, fList, Mi.isNon, fIsN, fNotN, fCmp, fLt, fLe, fGt, fGe, fAdd, fSub, fNeg, O.frz, Mi.pick, List.getElem?_cons_zero, List.getElem?_cons_succ, List.getElem?_nil, List.set_cons_zero, List.set_cons_succ, List.map_cons, List.map_nil, List.length_cons, List.length_nil, List.replicate_succ, List.replicate_zero, List.cons_append, List.nil_append, Option.map_some, Option.map_none, if_true, if_false, Bool.false_eq_true, Bool.not_true, Bool.not_false, decide_true, decide_false, reduceIte, ne_eq, not_true_eq_false, not_false_eq_true, List.getD_cons_zero, List.getD_cons_succ, Nat.reduceAdd, Nat.reduceSub, Nat.reduceLeDiff, Nat.reduceEqDiff, atI_0, atI_1, atI_2]
  simp only [f_measure, m_measure, it, loop_cons, abs_eq, w0, w, bnd_ap, of_ap, seq_ap, asg_ap, ret_ap, retN_ap, sif_ap, expr_ap, par_ap, par3_ap, asgT_ap, nil_ap, brk_ap, cnt_ap, give_val, give_own, give_ali, take_val, take_own, take_ali, ta_nil, ta_cons, pk_val, pk_own, pk_ali, pa_nil', pa_cons', var_ap, lit_ap, op_ap, un_ap, cb_ap, lc_ap, ln_ap, tup_ap, lst_ap, cv_ap, ck_ap, cl_ap, and_ap, or_ap, not_ap, eif_ap, bval_ap, bnot_ap, band_ap, bor_ap, gnam_ap, gtup_ap, gend_ap, gcons_ap, rng_ap, for_ap, loop_nil, setIx_ap, run_ap, M.ret, unpk, asB, back, retS, fit_of, sInt, sBl, fIx, fLen, fAbs, fInt, fList, Mi.isNon, fIsN, fNotN, fCmp, fLt, fLe, fGt, fGe, fAdd, fSub, fNeg, O.frz, Mi.pick, List.getElem?_cons_zero, List.getElem?_cons_succ, List.getElem?_nil, List.set_cons_zero, List.set_cons_succ, List.map_cons, List.map_nil, List.length_cons, List.length_nil, List.replicate_succ, List.replicate_zero, List.cons_append, List.nil_append, Option.map_some, Option.map_none, if_true, if_false, Bool.false_eq_true, Bool.not_true, Bool.not_false, decide_true, decide_false, reduceIte, ne_eq, not_true_eq_false, not_false_eq_true, List.getD_cons_zero, List.getD_cons_succ, Nat.reduceAdd, Nat.reduceSub, Nat.reduceLeDiff, Nat.reduceEqDiff, atI_0, atI_1, atI_2]
/-! #### ratios -/
def pr (q : Rat) : D := .tup [.int q.num, .int q.den]
theorem low_pos {n b : Int} (hb : 0 < b) : n.fdiv (Nat.gcd n.natAbs b.natAbs : Nat) = (Rat.divInt n b).num ∧ b.fdiv (Nat.gcd n.natAbs b.natAbs : Nat) = ((Rat.divInt n b).den : Int) := by
  have e : b.gcd n = Nat.gcd n.natAbs b.natAbs := Nat.gcd_comm _ _
  rw [Rat.num_divInt, Rat.den_divInt, if_neg (by omega), e, Int.sign_eq_one_of_pos hb, Int.one_mul, Int.fdiv_eq_ediv_of_nonneg _ (by omega), Int.fdiv_eq_ediv_of_nonneg _ (by omega)]
  refine ⟨rfl, ?_⟩
  rw [Int.natCast_ediv]
  congr 1
  omega
theorem low_neg {n b : Int} (hb : b < 0) : n.fdiv (-(Nat.gcd n.natAbs b.natAbs : Nat)) = (Rat.divInt n b).num ∧ b.fdiv (-(Nat.gcd n.natAbs b.natAbs : Nat)) = ((Rat.divInt n b).den : Int) := by
  have e : b.gcd n = Nat.gcd n.natAbs b.natAbs := Nat.gcd_comm _ _
  rw [Rat.num_divInt, Rat.den_divInt, if_neg (by omega), e, Int.sign_eq_neg_one_of_neg hb]
  have gp : 0 < Nat.gcd n.natAbs b.natAbs := Nat.gcd_pos_of_pos_right _ (by omega)
  have d1 : ((Nat.gcd n.natAbs b.natAbs : Nat) : Int) ∣ n := by
    rw [← Int.dvd_natAbs]
    exact Int.natCast_dvd_natCast.mpr (Nat.gcd_dvd_left _ _)
  have d2 : ((Nat.gcd n.natAbs b.natAbs : Nat) : Int) ∣ b := by
    rw [← Int.dvd_natAbs]
    exact Int.natCast_dvd_natCast.mpr (Nat.gcd_dvd_right _ _)
  generalize Nat.gcd n.natAbs b.natAbs = g at gp d1 d2 ⊢
  have g0 : (g : Int) ≠ 0 := by omega
  obtain ⟨k, rfl⟩ := d1
  obtain ⟨m, hm⟩ := d2
  have f1 : ∀ z : Int, ((g : Int) * z).fdiv (-(g : Int)) = -z := fun z => by
    have h : (g : Int) * z = (-(g : Int)) * (-z) := by rw [Int.neg_mul_neg]
    rw [h]
    exact Int.mul_fdiv_cancel_left _ (by omega)
  constructor
  · rw [f1, show (-1 : Int) * (g * k) = g * (-k) by rw [Int.mul_neg, Int.neg_one_mul], Int.mul_ediv_cancel_left _ g0]
  · rw [hm, f1]
    have hmn : m < 0 := by
      rcases Int.lt_or_le m 0 with h | h
      · exact h
      · have := Int.mul_nonneg (show (0 : Int) ≤ g by omega) h
        omega
    have : ((g : Int) * m).natAbs = g * m.natAbs := by rw [Int.natAbs_mul]; simp
    rw [this, Nat.mul_div_cancel_left _ gp]
    omega
theorem gcd_small {n b : Int} (hb : b ≠ 0) (h : b.natAbs < 2 ^ 1000) : Nat.gcd n.natAbs b.natAbs < 2 ^ 1000 ∧ 0 < Nat.gcd n.natAbs b.natAbs := by
  have := Nat.le_of_dvd (by omega) (Nat.gcd_dvd_right n.natAbs b.natAbs)
  exact ⟨by omega, Nat.gcd_pos_of_pos_right _ (by omega)⟩
theorem in_lowest_ok {n b : Int} (hb : b ≠ 0) (h : b.natAbs < 2 ^ 1000) : f_in_lowest [.val (.int n), .val (.int b)] = .ok (.val (pr (Rat.divInt n b)), [.non, .non]) := by
  obtain ⟨s1, s2⟩ := gcd_small (n := n) hb h
  have ms := measure_in (d := .lst [.int n, .int b]) n b rfl
  by_cases hp : 0 < b
  · obtain ⟨l1, l2⟩ := low_pos (n := n) hp
    have d1 := fun i => div_ok (i := i) (j := ((Nat.gcd n.natAbs b.natAbs : Nat) : Int)) (by omega) (by omega)
    simp only [f_in_lowest, m_in_lowest, ms, d1, l1, l2, hp, bnd_ap, of_ap, seq_ap, asg_ap, ret_ap, retN_ap, sif_ap, expr_ap, par_ap, par3_ap, asgT_ap, nil_ap, brk_ap, cnt_ap, give_val, give_own, give_ali, take_val, take_own, take_ali, ta_nil, ta_cons, pk_val, pk_own, pk_ali, pa_nil', pa_cons', var_ap, lit_ap, op_ap, un_ap, cb_ap, lc_ap, ln_ap, tup_ap, lst_ap, cv_ap, ck_ap, cl_ap, and_ap, or_ap, not_ap, eif_ap, bval_ap, bnot_ap, band_ap, bor_ap, gnam_ap, gtup_ap, gend_ap, gcons_ap, rng_ap, for_ap, loop_nil, setIx_ap, run_ap, M.ret, unpk, asB, back, retS, fit_of, sInt, sBl, fIx, fLen, fAbs, fInt, fList, Mi.isNon, fIsN, fNotN, fCmp, fLt, fLe, fGt, fGe, fAdd, fSub, fNeg, O.frz, Mi.pick, List.getElem?_cons_zero, List.getElem?_cons_succ, List.getElem?_nil, List.set_cons_zero, List.set_cons_succ, List.map_cons, List.map_nil, List.length_cons, List.length_nil, List.replicate_succ, List.replicate_zero, List.cons_append, List.nil_append, Option.map_some, Option.map_none, if_true, if_false, Bool.false_eq_true, Bool.not_true, Bool.not_false, decide_true, decide_false, reduceIte, ne_eq, not_true_eq_false, not_false_eq_true, List.getD_cons_zero, List.getD_cons_succ, Nat.reduceAdd, Nat.reduceSub, Nat.reduceLeDiff, Nat.reduceEqDiff, atI_0, atI_1, atI_2]
    rfl
  · obtain ⟨l1, l2⟩ := low_neg (n := n) (b := b) (by omega)
    have d1 := fun i => div_ok (i := i) (j := -((Nat.gcd n.natAbs b.natAbs : Nat) : Int)) (by omega) (by omega)
    simp only [f_in_lowest, m_in_lowest, ms, d1, l1, l2, hp, bnd_ap, of_ap, seq_ap, asg_ap, ret_ap, retN_ap, sif_ap, expr_ap, par_ap, par3_ap, asgT_ap, nil_ap, brk_ap, cnt_ap, give_val, give_own, give_ali, take_val, take_own, take_ali, ta_nil, ta_cons, pk_val, pk_own, pk_ali, pa_nil', pa_cons', var_ap, lit_ap, op_ap, un_ap, cb_ap, lc_ap, ln_ap, tup_ap, lst_ap, cv_ap, ck_ap, cl_ap, and_ap, or_ap, not_ap, eif_ap, bval_ap, bnot_ap, band_ap, bor_ap, gnam_ap, gtup_ap, gend_ap, gcons_ap, rng_ap, for_ap, loop_nil, setIx_ap, run_ap, M.ret, unpk, asB, back, retS, fit_of, sInt, sBl, fIx, fLen, fAbs, fInt, fList, Mi.isNon, fIsN, fNotN, fCmp, fLt, fLe, fGt, fGe, fAdd, fSub, fNeg, O.frz, Mi.pick, List.getElem?_cons_zero, List.getElem?_cons_succ, List.getElem?_nil, List.set_cons_zero, List.set_cons_succ, List.map_cons, List.map_nil, List.length_cons, List.length_nil, List.replicate_succ, List.replicate_zero, List.cons_append, List.nil_append, Option.map_some, Option.map_none, if_true, if_false, Bool.false_eq_true, Bool.not_true, Bool.not_false, decide_true, decide_false, reduceIte, ne_eq, not_true_eq_false, not_false_eq_true, List.getD_cons_zero, List.getD_cons_succ, Nat.reduceAdd, Nat.reduceSub, Nat.reduceLeDiff, Nat.reduceEqDiff, atI_0, atI_1, atI_2]
    rfl
/-- a pair, told as a tuple or as a list -/
def IsP (x : Rat) (p : D) : Prop := p = .tup [.int x.num, .int x.den] ∨ p = .lst [.int x.num, .int x.den]
def Sz (x : Rat) : Prop := x.num.natAbs < 2 ^ 490 ∧ x.den < 2 ^ 490
theorem isP {x : Rat} : IsP x (pr x) := .inl rfl
theorem sz_mul {a b : Int} (h1 : a.natAbs < 2 ^ 490) (h2 : b.natAbs < 2 ^ 490) : (a * b).natAbs < 2 ^ 980 := by
  rw [Int.natAbs_mul]
  exact Nat.lt_of_lt_of_le (Nat.mul_lt_mul'' h1 h2) (by rw [← Nat.pow_add]; exact Nat.le_refl _)
theorem two_le : (2 : Nat) ^ 490 ≤ 2 ^ 1000 ∧ (2 : Nat) ^ 980 + 2 ^ 980 ≤ 2 ^ 1000 := by
  constructor <;> decide
theorem den_abs {x : Rat} : ((x.den : Int)).natAbs = x.den := by omega
section
variable {x y : Rat} {p q : D} (hp : IsP x p) (hq : IsP y q) (hx : Sz x) (hy : Sz y)
include hp hq hx hy
theorem muls : fMul (.int x.num) (.int y.den) = some (.val (.int (x.num * y.den))) ∧ fMul (.int y.num) (.int x.den) = some (.val (.int (y.num * x.den))) ∧ fMul (.int x.den) (.int y.den) = some (.val (.int (x.den * y.den))) ∧ fMul (.int x.num) (.int y.num) = some (.val (.int (x.num * y.num))) ∧ fMul (.int x.den) (.int y.num) = some (.val (.int (x.den * y.num))) := by
  obtain ⟨t1, _⟩ := two_le
  obtain ⟨a, b⟩ := hx
  obtain ⟨c, d⟩ := hy
  refine ⟨mul_ok ?_ ?_, mul_ok ?_ ?_, mul_ok ?_ ?_, mul_ok ?_ ?_, mul_ok ?_ ?_⟩ <;> (try rw [den_abs]) <;> exact Nat.lt_of_lt_of_le (by assumption) t1
theorem dens : ((x.den : Int) * (y.den : Int)) ≠ 0 ∧ ((x.den : Int) * (y.den : Int)).natAbs < 2 ^ 1000 := by
  obtain ⟨_, t1⟩ := two_le
  have h1 := x.den_nz
  have h2 := y.den_nz
  refine ⟨Int.mul_ne_zero (by omega) (by omega), ?_⟩
  have := sz_mul (a := x.den) (b := y.den) (by rw [den_abs]; exact hx.2) (by rw [den_abs]; exact hy.2)
  omega
theorem added_ok : f_added [.val p, .val q] = .ok (.val (pr (x + y)), [.non, .non]) := by
  obtain ⟨m1, m2, m3, m4, m5⟩ := muls hp hq hx hy
  obtain ⟨n1, n2⟩ := dens hp hq hx hy
  have e : Rat.divInt (x.num * y.den + y.num * x.den) (x.den * y.den) = x + y := by
    rw [← Rat.divInt_add_divInt _ _ (by have := x.den_nz; omega) (by have := y.den_nz; omega), Rat.num_divInt_den, Rat.num_divInt_den]
  have l := in_lowest_ok (n := x.num * y.den + y.num * x.den) n1 n2
  rw [e] at l
  rcases hp with rfl | rfl <;> rcases hq with rfl | rfl <;> simp only [f_added, m_added, m1, m2, m3, l, bnd_ap, of_ap, seq_ap, asg_ap, ret_ap, retN_ap, sif_ap, expr_ap, par_ap, par3_ap, asgT_ap, nil_ap, brk_ap, cnt_ap, give_val, give_own, give_ali, take_val, take_own, take_ali, ta_nil, ta_cons, pk_val, pk_own, pk_ali, pa_nil', pa_cons', var_ap, lit_ap, op_ap, un_ap, cb_ap, lc_ap, ln_ap, tup_ap, lst_ap, cv_ap, ck_ap, cl_ap, and_ap, or_ap, not_ap, eif_ap, bval_ap, bnot_ap, band_ap, bor_ap, gnam_ap, gtup_ap, gend_ap, gcons_ap, rng_ap, for_ap, loop_nil, setIx_ap, run_ap, M.ret, unpk, asB, back, retS, fit_of, sInt, sBl, fIx, fLen, fAbs, fInt, fList, Mi.isNon, fIsN, fNotN, fCmp, fLt, fLe, fGt, fGe, fAdd, fSub, fNeg, O.frz, Mi.pick, List.getElem?_cons_zero, List.getElem?_cons_succ, List.getElem?_nil, List.set_cons_zero, List.set_cons_succ, List.map_cons, List.map_nil, List.length_cons, List.length_nil, List.replicate_succ, List.replicate_zero, List.cons_append, List.nil_append, Option.map_some, Option.map_none, if_true, if_false, Bool.false_eq_true, Bool.not_true, Bool.not_false, decide_true, decide_false, reduceIte, ne_eq, not_true_eq_false, not_false_eq_true, List.getD_cons_zero, List.getD_cons_succ, Nat.reduceAdd, Nat.reduceSub, Nat.reduceLeDiff, Nat.reduceEqDiff, atI_0, atI_1, atI_2] <;> rfl
theorem taken_ok : f_taken [.val p, .val q] = .ok (.val (pr (x - y)), [.non, .non]) := by
  obtain ⟨m1, m2, m3, m4, m5⟩ := muls hp hq hx hy
  obtain ⟨n1, n2⟩ := dens hp hq hx hy
  have e : Rat.divInt (x.num * y.den - y.num * x.den) (x.den * y.den) = x - y := by
    rw [← Rat.divInt_sub_divInt _ _ (by have := x.den_nz; omega) (by have := y.den_nz; omega), Rat.num_divInt_den, Rat.num_divInt_den]
  have l := in_lowest_ok (n := x.num * y.den - y.num * x.den) n1 n2
  rw [e] at l
  rcases hp with rfl | rfl <;> rcases hq with rfl | rfl <;> simp only [f_taken, m_taken, m1, m2, m3, l, bnd_ap, of_ap, seq_ap, asg_ap, ret_ap, retN_ap, sif_ap, expr_ap, par_ap, par3_ap, asgT_ap, nil_ap, brk_ap, cnt_ap, give_val, give_own, give_ali, take_val, take_own, take_ali, ta_nil, ta_cons, pk_val, pk_own, pk_ali, pa_nil', pa_cons', var_ap, lit_ap, op_ap, un_ap, cb_ap, lc_ap, ln_ap, tup_ap, lst_ap, cv_ap, ck_ap, cl_ap, and_ap, or_ap, not_ap, eif_ap, bval_ap, bnot_ap, band_ap, bor_ap, gnam_ap, gtup_ap, gend_ap, gcons_ap, rng_ap, for_ap, loop_nil, setIx_ap, run_ap, M.ret, unpk, asB, back, retS, fit_of, sInt, sBl, fIx, fLen, fAbs, fInt, fList, Mi.isNon, fIsN, fNotN, fCmp, fLt, fLe, fGt, fGe, fAdd, fSub, fNeg, O.frz, Mi.pick, List.getElem?_cons_zero, List.getElem?_cons_succ, List.getElem?_nil, List.set_cons_zero, List.set_cons_succ, List.map_cons, List.map_nil, List.length_cons, List.length_nil, List.replicate_succ, List.replicate_zero, List.cons_append, List.nil_append, Option.map_some, Option.map_none, if_true, if_false, Bool.false_eq_true, Bool.not_true, Bool.not_false, decide_true, decide_false, reduceIte, ne_eq, not_true_eq_false, not_false_eq_true, List.getD_cons_zero, List.getD_cons_succ, Nat.reduceAdd, Nat.reduceSub, Nat.reduceLeDiff, Nat.reduceEqDiff, atI_0, atI_1, atI_2] <;> rfl
theorem multiplied_ok : f_multiplied [.val p, .val q] = .ok (.val (pr (x * y)), [.non, .non]) := by
  obtain ⟨m1, m2, m3, m4, m5⟩ := muls hp hq hx hy
  obtain ⟨n1, n2⟩ := dens hp hq hx hy
  have e : Rat.divInt (x.num * y.num) (x.den * y.den) = x * y := by
    rw [← Rat.divInt_mul_divInt, Rat.num_divInt_den, Rat.num_divInt_den]
  have l := in_lowest_ok (n := x.num * y.num) n1 n2
  rw [e] at l
  rcases hp with rfl | rfl <;> rcases hq with rfl | rfl <;> simp only [f_multiplied, m_multiplied, m3, m4, l, bnd_ap, of_ap, seq_ap, asg_ap, ret_ap, retN_ap, sif_ap, expr_ap, par_ap, par3_ap, asgT_ap, nil_ap, brk_ap, cnt_ap, give_val, give_own, give_ali, take_val, take_own, take_ali, ta_nil, ta_cons, pk_val, pk_own, pk_ali, pa_nil', pa_cons', var_ap, lit_ap, op_ap, un_ap, cb_ap, lc_ap, ln_ap, tup_ap, lst_ap, cv_ap, ck_ap, cl_ap, and_ap, or_ap, not_ap, eif_ap, bval_ap, bnot_ap, band_ap, bor_ap, gnam_ap, gtup_ap, gend_ap, gcons_ap, rng_ap, for_ap, loop_nil, setIx_ap, run_ap, M.ret, unpk, asB, back, retS, fit_of, sInt, sBl, fIx, fLen, fAbs, fInt, fList, Mi.isNon, fIsN, fNotN, fCmp, fLt, fLe, fGt, fGe, fAdd, fSub, fNeg, O.frz, Mi.pick, List.getElem?_cons_zero, List.getElem?_cons_succ, List.getElem?_nil, List.set_cons_zero, List.set_cons_succ, List.map_cons, List.map_nil, List.length_cons, List.length_nil, List.replicate_succ, List.replicate_zero, List.cons_append, List.nil_append, Option.map_some, Option.map_none, if_true, if_false, Bool.false_eq_true, Bool.not_true, Bool.not_false, decide_true, decide_false, reduceIte, ne_eq, not_true_eq_false, not_false_eq_true, List.getD_cons_zero, List.getD_cons_succ, Nat.reduceAdd, Nat.reduceSub, Nat.reduceLeDiff, Nat.reduceEqDiff, atI_0, atI_1, atI_2] <;> rfl
theorem divided_ok (h0 : y.num ≠ 0) : f_divided [.val p, .val q] = .ok (.val (pr (x / y)), [.non, .non]) := by
  obtain ⟨m1, m2, m3, m4, m5⟩ := muls hp hq hx hy
  obtain ⟨_, t1⟩ := two_le
  have n1 : ((x.den : Int) * y.num) ≠ 0 := Int.mul_ne_zero (by have := x.den_nz; omega) h0
  have n2 : ((x.den : Int) * y.num).natAbs < 2 ^ 1000 := by
    have := sz_mul (a := x.den) (b := y.num) (by rw [den_abs]; exact hx.2) hy.1
    omega
  have e : Rat.divInt (x.num * y.den) (x.den * y.num) = x / y := by
    rw [← Rat.divInt_mul_divInt, Rat.num_divInt_den, ← Rat.inv_divInt, Rat.num_divInt_den, Rat.div_def]
  have l := in_lowest_ok (n := x.num * y.den) n1 n2
  rw [e] at l
  rcases hp with rfl | rfl <;> rcases hq with rfl | rfl <;> simp only [f_divided, m_divided, m1, m5, l, bnd_ap, of_ap, seq_ap, asg_ap, ret_ap, retN_ap, sif_ap, expr_ap, par_ap, par3_ap, asgT_ap, nil_ap, brk_ap, cnt_ap, give_val, give_own, give_ali, take_val, take_own, take_ali, ta_nil, ta_cons, pk_val, pk_own, pk_ali, pa_nil', pa_cons', var_ap, lit_ap, op_ap, un_ap, cb_ap, lc_ap, ln_ap, tup_ap, lst_ap, cv_ap, ck_ap, cl_ap, and_ap, or_ap, not_ap, eif_ap, bval_ap, bnot_ap, band_ap, bor_ap, gnam_ap, gtup_ap, gend_ap, gcons_ap, rng_ap, for_ap, loop_nil, setIx_ap, run_ap, M.ret, unpk, asB, back, retS, fit_of, sInt, sBl, fIx, fLen, fAbs, fInt, fList, Mi.isNon, fIsN, fNotN, fCmp, fLt, fLe, fGt, fGe, fAdd, fSub, fNeg, O.frz, Mi.pick, List.getElem?_cons_zero, List.getElem?_cons_succ, List.getElem?_nil, List.set_cons_zero, List.set_cons_succ, List.map_cons, List.map_nil, List.length_cons, List.length_nil, List.replicate_succ, List.replicate_zero, List.cons_append, List.nil_append, Option.map_some, Option.map_none, if_true, if_false, Bool.false_eq_true, Bool.not_true, Bool.not_false, decide_true, decide_false, reduceIte, ne_eq, not_true_eq_false, not_false_eq_true, List.getD_cons_zero, List.getD_cons_succ, Nat.reduceAdd, Nat.reduceSub, Nat.reduceLeDiff, Nat.reduceEqDiff, atI_0, atI_1, atI_2] <;> rfl
theorem is_less_ok : f_is_less [.val p, .val q] = .ok (.val (.bl (decide (x.num * y.den < y.num * x.den))), [.non, .non]) := by
  obtain ⟨m1, m2, m3, m4, m5⟩ := muls hp hq hx hy
  rcases hp with rfl | rfl <;> rcases hq with rfl | rfl <;> simp only [f_is_less, m_is_less, m1, m2, bnd_ap, of_ap, seq_ap, asg_ap, ret_ap, retN_ap, sif_ap, expr_ap, par_ap, par3_ap, asgT_ap, nil_ap, brk_ap, cnt_ap, give_val, give_own, give_ali, take_val, take_own, take_ali, ta_nil, ta_cons, pk_val, pk_own, pk_ali, pa_nil', pa_cons', var_ap, lit_ap, op_ap, un_ap, cb_ap, lc_ap, ln_ap, tup_ap, lst_ap, cv_ap, ck_ap, cl_ap, and_ap, or_ap, not_ap, eif_ap, bval_ap, bnot_ap, band_ap, bor_ap, gnam_ap, gtup_ap, gend_ap, gcons_ap, rng_ap, for_ap, loop_nil, setIx_ap, run_ap, M.ret, unpk, asB, back, retS, fit_of, sInt, sBl, fIx, fLen, fAbs, fInt, fList, Mi.isNon, fIsN, fNotN, fCmp, fLt, fLe, fGt, fGe, fAdd, fSub, fNeg, O.frz, Mi.pick, List.getElem?_cons_zero, List.getElem?_cons_succ, List.getElem?_nil, List.set_cons_zero, List.set_cons_succ, List.map_cons, List.map_nil, List.length_cons, List.length_nil, List.replicate_succ, List.replicate_zero, List.cons_append, List.nil_append, Option.map_some, Option.map_none, if_true, if_false, Bool.false_eq_true, Bool.not_true, Bool.not_false, decide_true, decide_false, reduceIte, ne_eq, not_true_eq_false, not_false_eq_true, List.getD_cons_zero, List.getD_cons_succ, Nat.reduceAdd, Nat.reduceSub, Nat.reduceLeDiff, Nat.reduceEqDiff, atI_0, atI_1, atI_2]
end
def isI : D → Bool
  | .int _ => true
  | _ => false
/-- what may be asked of its kind -/
def Pl : D → Prop
  | .non => True
  | .bl _ => True
  | .int _ => True
  | .str _ => True
  | .lst _ => True
  | .tup _ => True
  | .dic _ => True
  | _ => False
theorem is_integer_ok {d : D} (h : Pl d) : f_is_integer [.val d] = .ok (.val (.bl (isI d)), [.non]) := by
  cases d <;> first | exact h.elim | rfl
/-! #### what is a ratio -/
theorem rest12 (a b c d : Mi.S) : restT [1] [a, b] [c, d] = [c, b] := rfl
theorem rest34 (a b c d e f g h : Mi.S) : restT [3] [a, b, c, d] [e, f, g, h] = [e, f, g, d] := rfl
theorem are_integers_seq {d : D} {xs : List D} (h : d = .lst xs ∨ d = .tup xs) (hx : ∀ x ∈ xs, Pl x) (hl : xs.length ≤ 1000) : f_are_integers [.val d] = .ok (.val (.bl ((xs.map isI).all id)), [.non]) := by
  have hi : items d = some xs := by rcases h with rfl | rfl <;> rfl
  have it : fIsi isT [d, .tup [.ty "list", .ty "tuple"]] = some (.val (.bl true)) := by rcases h with rfl | rfl <;> rfl
  have sq : iSeq (eVar 0) [Mi.S.val d, .non] = .ok ((xs, noPin), [Mi.S.val d, .non]) := by rw [seqi_var (d := d) _ _ rfl, hi]
  have cm : compM [1] noPin (gNam 1) bYes (eCallV f_is_integer (lCons (eVar 1) lNil)) xs [] [Mi.S.val d, .non] = .ok (xs.map fun x => .bl (isI x), [Mi.S.val d, .non]) := by
    rw [compM_map (h := fun x => .bl (isI x)) _ _ xs [] (fun x hm => ⟨[.val d, .val x], [.val d, .val x], .val (.bl (isI x)), [.val d, .val x], rfl, by simp only [is_integer_ok (hx x hm), bnd_ap, of_ap, seq_ap, asg_ap, ret_ap, retN_ap, sif_ap, expr_ap, par_ap, par3_ap, asgT_ap, nil_ap, brk_ap, cnt_ap, give_val, give_own, give_ali, take_val, take_own, take_ali, ta_nil, ta_cons, pk_val, pk_own, pk_ali, pa_nil', pa_cons', var_ap, lit_ap, op_ap, un_ap, cb_ap, lc_ap, ln_ap, tup_ap, lst_ap, cv_ap, ck_ap, cl_ap, and_ap, or_ap, not_ap, eif_ap, bval_ap, bnot_ap, band_ap, bor_ap, gnam_ap, gtup_ap, gend_ap, gcons_ap, rng_ap, for_ap, loop_nil, setIx_ap, run_ap, M.ret, unpk, asB, back, retS, fit_of, sInt, sBl, fIx, fLen, fAbs, fInt, fList, Mi.isNon, fIsN, fNotN, fCmp, fLt, fLe, fGt, fGe, fAdd, fSub, fNeg, O.frz, Mi.pick, List.getElem?_cons_zero, List.getElem?_cons_succ, List.getElem?_nil, List.set_cons_zero, List.set_cons_succ, List.map_cons, List.map_nil, List.length_cons, List.length_nil, List.replicate_succ, List.replicate_zero, List.cons_append, List.nil_append, Option.map_some, Option.map_none, if_true, if_false, Bool.false_eq_true, Bool.not_true, Bool.not_false, decide_true, decide_false, reduceIte, ne_eq, not_true_eq_false, not_false_eq_true, List.getD_cons_zero, List.getD_cons_succ, Nat.reduceAdd, Nat.reduceSub, Nat.reduceLeDiff, Nat.reduceEqDiff, atI_0, atI_1, atI_2], rfl, rfl⟩) (by simpa using hl)]
    rfl
  have bs : ∀ l : List D, bools (l.map fun x => D.bl (isI x)) = some (l.map isI) := fun l => by
    induction l with
    | nil => rfl
    | cons x l ih => simp only [List.map_cons, bools, ih, Option.map_some]
  have ec : eComp [1] (iSeq (eVar 0)) (gNam 1) bYes (eCallV f_is_integer (lCons (eVar 1) lNil)) [Mi.S.val d, .non] = .ok (.own (.lst (xs.map fun x => .bl (isI x))), [Mi.S.val d, .non]) := by
    rw [ecomp_ap _ _ _ _ _ _ sq rfl]
    show (match compM [1] noPin (gNam 1) bYes (eCallV f_is_integer (lCons (eVar 1) lNil)) xs [] [Mi.S.val d, .non] with
      | .ok (ds, τ2) => if realOk [Mi.S.val d, .non] τ2 = true then R.ok (Mi.S.own (.lst ds), restT [1] [Mi.S.val d, .non] τ2) else .stuck
      | _ => .stuck) = _
    rw [cm]
    rfl
  simp only [f_are_integers, m_are_integers, it, ec, fAll, bs, bnd_ap, of_ap, seq_ap, asg_ap, ret_ap, retN_ap, sif_ap, expr_ap, par_ap, par3_ap, asgT_ap, nil_ap, brk_ap, cnt_ap, give_val, give_own, give_ali, take_val, take_own, take_ali, ta_nil, ta_cons, pk_val, pk_own, pk_ali, pa_nil', pa_cons', var_ap, lit_ap, op_ap, un_ap, cb_ap, lc_ap, ln_ap, tup_ap, lst_ap, cv_ap, ck_ap, cl_ap, and_ap, or_ap, not_ap, eif_ap, bval_ap, bnot_ap, band_ap, bor_ap, gnam_ap, gtup_ap, gend_ap, gcons_ap, rng_ap, for_ap, loop_nil, setIx_ap, run_ap, M.ret, unpk, asB, back, retS, fit_of, sInt, sBl, fIx, fLen, fAbs, fInt, fList, Mi.isNon, fIsN, fNotN, fCmp, fLt, fLe, fGt, fGe, fAdd, fSub, fNeg, O.frz, Mi.pick, List.getElem?_cons_zero, List.getElem?_cons_succ, List.getElem?_nil, List.set_cons_zero, List.set_cons_succ, List.map_cons, List.map_nil, List.length_cons, List.length_nil, List.replicate_succ, List.replicate_zero, List.cons_append, List.nil_append, Option.map_some, Option.map_none, if_true, if_false, Bool.false_eq_true, Bool.not_true, Bool.not_false, decide_true, decide_false, reduceIte, ne_eq, not_true_eq_false, not_false_eq_true, List.getD_cons_zero, List.getD_cons_succ, Nat.reduceAdd, Nat.reduceSub, Nat.reduceLeDiff, Nat.reduceEqDiff, atI_0, atI_1, atI_2]
theorem are_integers_no {d : D} (it : fIsi isT [d, .tup [.ty "list", .ty "tuple"]] = some (.val (.bl false))) : f_are_integers [.val d] = .ok (.val (.bl false), [.non]) := by
  simp only [f_are_integers, m_are_integers, it, bnd_ap, of_ap, seq_ap, asg_ap, ret_ap, retN_ap, sif_ap, expr_ap, par_ap, par3_ap, asgT_ap, nil_ap, brk_ap, cnt_ap, give_val, give_own, give_ali, take_val, take_own, take_ali, ta_nil, ta_cons, pk_val, pk_own, pk_ali, pa_nil', pa_cons', var_ap, lit_ap, op_ap, un_ap, cb_ap, lc_ap, ln_ap, tup_ap, lst_ap, cv_ap, ck_ap, cl_ap, and_ap, or_ap, not_ap, eif_ap, bval_ap, bnot_ap, band_ap, bor_ap, gnam_ap, gtup_ap, gend_ap, gcons_ap, rng_ap, for_ap, loop_nil, setIx_ap, run_ap, M.ret, unpk, asB, back, retS, fit_of, sInt, sBl, fIx, fLen, fAbs, fInt, fList, Mi.isNon, fIsN, fNotN, fCmp, fLt, fLe, fGt, fGe, fAdd, fSub, fNeg, O.frz, Mi.pick, List.getElem?_cons_zero, List.getElem?_cons_succ, List.getElem?_nil, List.set_cons_zero, List.set_cons_succ, List.map_cons, List.map_nil, List.length_cons, List.length_nil, List.replicate_succ, List.replicate_zero, List.cons_append, List.nil_append, Option.map_some, Option.map_none, if_true, if_false, Bool.false_eq_true, Bool.not_true, Bool.not_false, decide_true, decide_false, reduceIte, ne_eq, not_true_eq_false, not_false_eq_true, List.getD_cons_zero, List.getD_cons_succ, Nat.reduceAdd, Nat.reduceSub, Nat.reduceLeDiff, Nat.reduceEqDiff, atI_0, atI_1, atI_2]
theorem is_ratio_no {d : D} (h : f_are_integers [.val d] = .ok (.val (.bl false), [.non])) : f_is_ratio [.val d] = .ok (.val (.bl false), [.non]) := by
  simp only [f_is_ratio, m_is_ratio, h, bnd_ap, of_ap, seq_ap, asg_ap, ret_ap, retN_ap, sif_ap, expr_ap, par_ap, par3_ap, asgT_ap, nil_ap, brk_ap, cnt_ap, give_val, give_own, give_ali, take_val, take_own, take_ali, ta_nil, ta_cons, pk_val, pk_own, pk_ali, pa_nil', pa_cons', var_ap, lit_ap, op_ap, un_ap, cb_ap, lc_ap, ln_ap, tup_ap, lst_ap, cv_ap, ck_ap, cl_ap, and_ap, or_ap, not_ap, eif_ap, bval_ap, bnot_ap, band_ap, bor_ap, gnam_ap, gtup_ap, gend_ap, gcons_ap, rng_ap, for_ap, loop_nil, setIx_ap, run_ap, M.ret, unpk, asB, back, retS, fit_of, sInt, sBl, fIx, fLen, fAbs, fInt, fList, Mi.isNon, fIsN, fNotN, fCmp, fLt, fLe, fGt, fGe, fAdd, fSub, fNeg, O.frz, Mi.pick, List.getElem?_cons_zero, List.getElem?_cons_succ, List.getElem?_nil, List.set_cons_zero, List.set_cons_succ, List.map_cons, List.map_nil, List.length_cons, List.length_nil, List.replicate_succ, List.replicate_zero, List.cons_append, List.nil_append, Option.map_some, Option.map_none, if_true, if_false, Bool.false_eq_true, Bool.not_true, Bool.not_false, decide_true, decide_false, reduceIte, ne_eq, not_true_eq_false, not_false_eq_true, List.getD_cons_zero, List.getD_cons_succ, Nat.reduceAdd, Nat.reduceSub, Nat.reduceLeDiff, Nat.reduceEqDiff, atI_0, atI_1, atI_2]
theorem is_ratio_len {d : D} {xs : List D} (hd : d = .lst xs ∨ d = .tup xs) (h : f_are_integers [.val d] = .ok (.val (.bl true), [.non])) (hn : xs.length ≠ 2) : f_is_ratio [.val d] = .ok (.val (.bl false), [.non]) := by
  have e : ((xs.length : Int) == 2) = false := by simp; omega
  rcases hd with rfl | rfl <;> simp only [f_is_ratio, m_is_ratio, h, ne_int, e, bnd_ap, of_ap, seq_ap, asg_ap, ret_ap, retN_ap, sif_ap, expr_ap, par_ap, par3_ap, asgT_ap, nil_ap, brk_ap, cnt_ap, give_val, give_own, give_ali, take_val, take_own, take_ali, ta_nil, ta_cons, pk_val, pk_own, pk_ali, pa_nil', pa_cons', var_ap, lit_ap, op_ap, un_ap, cb_ap, lc_ap, ln_ap, tup_ap, lst_ap, cv_ap, ck_ap, cl_ap, and_ap, or_ap, not_ap, eif_ap, bval_ap, bnot_ap, band_ap, bor_ap, gnam_ap, gtup_ap, gend_ap, gcons_ap, rng_ap, for_ap, loop_nil, setIx_ap, run_ap, M.ret, unpk, asB, back, retS, fit_of, sInt, sBl, fIx, fLen, fAbs, fInt, fList, Mi.isNon, fIsN, fNotN, fCmp, fLt, fLe, fGt, fGe, fAdd, fSub, fNeg, O.frz, Mi.pick, List.getElem?_cons_zero, List.getElem?_cons_succ, List.getElem?_nil, List.set_cons_zero, List.set_cons_succ, List.map_cons, List.map_nil, List.length_cons, List.length_nil, List.replicate_succ, List.replicate_zero, List.cons_append, List.nil_append, Option.map_some, Option.map_none, if_true, if_false, Bool.false_eq_true, Bool.not_true, Bool.not_false, decide_true, decide_false, reduceIte, ne_eq, not_true_eq_false, not_false_eq_true, List.getD_cons_zero, List.getD_cons_succ, Nat.reduceAdd, Nat.reduceSub, Nat.reduceLeDiff, Nat.reduceEqDiff, atI_0, atI_1, atI_2]
theorem is_ratio_two {d : D} {a b : Int} (h : d = .lst [.int a, .int b] ∨ d = .tup [.int a, .int b]) : f_is_ratio [.val d] = .ok (.val (.bl (decide (0 < b) && (((Nat.gcd a.natAbs b.natAbs : Nat) : Int) == 1))), [.non]) := by
  have ai := are_integers_seq h (fun x hx => by
    rcases List.mem_cons.mp hx with rfl | hx
    · trivial
    · rcases List.mem_cons.mp hx with rfl | hx
      · trivial
      · cases hx) (by simp)
  have ai' : f_are_integers [.val d] = .ok (.val (.bl true), [.non]) := ai
  have ms := measure_in (d := d) a b (by rcases h with rfl | rfl <;> rfl)
  have e : (((2 : Nat) : Int) == 2) = true := rfl
  have e' : (((0 + 1 + 1 : Nat) : Int) == 2) = true := rfl
  by_cases hb : 0 < b
  · rcases h with rfl | rfl <;> simp only [f_is_ratio, m_is_ratio, ai', ms, ne_int, eq_int, e, e', hb, Bool.true_and, bnd_ap, of_ap, seq_ap, asg_ap, ret_ap, retN_ap, sif_ap, expr_ap, par_ap, par3_ap, asgT_ap, nil_ap, brk_ap, cnt_ap, give_val, give_own, give_ali, take_val, take_own, take_ali, ta_nil, ta_cons, pk_val, pk_own, pk_ali, pa_nil', pa_cons', var_ap, lit_ap, op_ap, un_ap, cb_ap, lc_ap, ln_ap, tup_ap, lst_ap, cv_ap, ck_ap, cl_ap, and_ap, or_ap, not_ap, eif_ap, bval_ap, bnot_ap, band_ap, bor_ap, gnam_ap, gtup_ap, gend_ap, gcons_ap, rng_ap, for_ap, loop_nil, setIx_ap, run_ap, M.ret, unpk, asB, back, retS, fit_of, sInt, sBl, fIx, fLen, fAbs, fInt, fList, Mi.isNon, fIsN, fNotN, fCmp, fLt, fLe, fGt, fGe, fAdd, fSub, fNeg, O.frz, Mi.pick, List.getElem?_cons_zero, List.getElem?_cons_succ, List.getElem?_nil, List.set_cons_zero, List.set_cons_succ, List.map_cons, List.map_nil, List.length_cons, List.length_nil, List.replicate_succ, List.replicate_zero, List.cons_append, List.nil_append, Option.map_some, Option.map_none, if_true, if_false, Bool.false_eq_true, Bool.not_true, Bool.not_false, decide_true, decide_false, reduceIte, ne_eq, not_true_eq_false, not_false_eq_true, List.getD_cons_zero, List.getD_cons_succ, Nat.reduceAdd, Nat.reduceSub, Nat.reduceLeDiff, Nat.reduceEqDiff, atI_0, atI_1, atI_2]
  · rcases h with rfl | rfl <;> simp only [f_is_ratio, m_is_ratio, ai', ms, ne_int, eq_int, e, e', hb, Bool.false_and, bnd_ap, of_ap, seq_ap, asg_ap, ret_ap, retN_ap, sif_ap, expr_ap, par_ap, par3_ap, asgT_ap, nil_ap, brk_ap, cnt_ap, give_val, give_own, give_ali, take_val, take_own, take_ali, ta_nil, ta_cons, pk_val, pk_own, pk_ali, pa_nil', pa_cons', var_ap, lit_ap, op_ap, un_ap, cb_ap, lc_ap, ln_ap, tup_ap, lst_ap, cv_ap, ck_ap, cl_ap, and_ap, or_ap, not_ap, eif_ap, bval_ap, bnot_ap, band_ap, bor_ap, gnam_ap, gtup_ap, gend_ap, gcons_ap, rng_ap, for_ap, loop_nil, setIx_ap, run_ap, M.ret, unpk, asB, back, retS, fit_of, sInt, sBl, fIx, fLen, fAbs, fInt, fList, Mi.isNon, fIsN, fNotN, fCmp, fLt, fLe, fGt, fGe, fAdd, fSub, fNeg, O.frz, Mi.pick, List.getElem?_cons_zero, List.getElem?_cons_succ, List.getElem?_nil, List.set_cons_zero, List.set_cons_succ, List.map_cons, List.map_nil, List.length_cons, List.length_nil, List.replicate_succ, List.replicate_zero, List.cons_append, List.nil_append, Option.map_some, Option.map_none, if_true, if_false, Bool.false_eq_true, Bool.not_true, Bool.not_false, decide_true, decide_false, reduceIte, ne_eq, not_true_eq_false, not_false_eq_true, List.getD_cons_zero, List.getD_cons_succ, Nat.reduceAdd, Nat.reduceSub, Nat.reduceLeDiff, Nat.reduceEqDiff, atI_0, atI_1, atI_2]
theorem is_ratio_ok {x : Rat} {p : D} (hp : IsP x p) : f_is_ratio [.val p] = .ok (.val (.bl true), [.non]) := by
  rw [is_ratio_two (a := x.num) (b := x.den) hp.symm]
  have h1 : (0 : Int) < x.den := by have := x.den_nz; omega
  have h2 : Nat.gcd x.num.natAbs (x.den : Int).natAbs = 1 := by rw [den_abs]; exact x.reduced
  rw [h2]
  simp
  omega
theorem need_ratio_ok {p w : D} (h : f_is_ratio [.val p] = .ok (.val (.bl true), [.non])) : f_need_ratio [.val p, .val w] = .ok (.val .non, [.non, .non]) := by
  simp only [f_need_ratio, m_need_ratio, h, bnd_ap, of_ap, seq_ap, asg_ap, ret_ap, retN_ap, sif_ap, expr_ap, par_ap, par3_ap, asgT_ap, nil_ap, brk_ap, cnt_ap, give_val, give_own, give_ali, take_val, take_own, take_ali, ta_nil, ta_cons, pk_val, pk_own, pk_ali, pa_nil', pa_cons', var_ap, lit_ap, op_ap, un_ap, cb_ap, lc_ap, ln_ap, tup_ap, lst_ap, cv_ap, ck_ap, cl_ap, and_ap, or_ap, not_ap, eif_ap, bval_ap, bnot_ap, band_ap, bor_ap, gnam_ap, gtup_ap, gend_ap, gcons_ap, rng_ap, for_ap, loop_nil, setIx_ap, run_ap, M.ret, unpk, asB, back, retS, fit_of, sInt, sBl, fIx, fLen, fAbs, fInt, fList, Mi.isNon, fIsN, fNotN, fCmp, fLt, fLe, fGt, fGe, fAdd, fSub, fNeg, O.frz, Mi.pick, List.getElem?_cons_zero, List.getElem?_cons_succ, List.getElem?_nil, List.set_cons_zero, List.set_cons_succ, List.map_cons, List.map_nil, List.length_cons, List.length_nil, List.replicate_succ, List.replicate_zero, List.cons_append, List.nil_append, Option.map_some, Option.map_none, if_true, if_false, Bool.false_eq_true, Bool.not_true, Bool.not_false, decide_true, decide_false, reduceIte, ne_eq, not_true_eq_false, not_false_eq_true, List.getD_cons_zero, List.getD_cons_succ, Nat.reduceAdd, Nat.reduceSub, Nat.reduceLeDiff, Nat.reduceEqDiff, atI_0, atI_1, atI_2]
theorem need_ratio_no {p w : D} (h : f_is_ratio [.val p] = .ok (.val (.bl false), [.non])) : f_need_ratio [.val p, .val w] = .exc "BadRatio" [("part", w)] [.non, .non] := by
  simp only [f_need_ratio, m_need_ratio, h, raise_ap, bnd_ap, of_ap, seq_ap, asg_ap, ret_ap, retN_ap, sif_ap, expr_ap, par_ap, par3_ap, asgT_ap, nil_ap, brk_ap, cnt_ap, give_val, give_own, give_ali, take_val, take_own, take_ali, ta_nil, ta_cons, pk_val, pk_own, pk_ali, pa_nil', pa_cons', var_ap, lit_ap, op_ap, un_ap, cb_ap, lc_ap, ln_ap, tup_ap, lst_ap, cv_ap, ck_ap, cl_ap, and_ap, or_ap, not_ap, eif_ap, bval_ap, bnot_ap, band_ap, bor_ap, gnam_ap, gtup_ap, gend_ap, gcons_ap, rng_ap, for_ap, loop_nil, setIx_ap, run_ap, M.ret, unpk, asB, back, retS, fit_of, sInt, sBl, fIx, fLen, fAbs, fInt, fList, Mi.isNon, fIsN, fNotN, fCmp, fLt, fLe, fGt, fGe, fAdd, fSub, fNeg, O.frz, Mi.pick, List.getElem?_cons_zero, List.getElem?_cons_succ, List.getElem?_nil, List.set_cons_zero, List.set_cons_succ, List.map_cons, List.map_nil, List.length_cons, List.length_nil, List.replicate_succ, List.replicate_zero, List.cons_append, List.nil_append, Option.map_some, Option.map_none, if_true, if_false, Bool.false_eq_true, Bool.not_true, Bool.not_false, decide_true, decide_false, reduceIte, ne_eq, not_true_eq_false, not_false_eq_true, List.getD_cons_zero, List.getD_cons_succ, Nat.reduceAdd, Nat.reduceSub, Nat.reduceLeDiff, Nat.reduceEqDiff, atI_0, atI_1, atI_2]
  rfl
def Good (p : D) : Prop := f_is_ratio [.val p] = .ok (.val (.bl true), [.non])
def Bad (p : D) : Prop := f_is_ratio [.val p] = .ok (.val (.bl false), [.non])
theorem need_two_ok {p q : D} (hp : Good p) (hq : Good q) : f_need_two [.val p, .val q] = .ok (.val .non, [.non, .non]) := by
  simp only [f_need_two, m_need_two, fun w => need_ratio_ok (w := w) hp, fun w => need_ratio_ok (w := w) hq, bnd_ap, of_ap, seq_ap, asg_ap, ret_ap, retN_ap, sif_ap, expr_ap, par_ap, par3_ap, asgT_ap, nil_ap, brk_ap, cnt_ap, give_val, give_own, give_ali, take_val, take_own, take_ali, ta_nil, ta_cons, pk_val, pk_own, pk_ali, pa_nil', pa_cons', var_ap, lit_ap, op_ap, un_ap, cb_ap, lc_ap, ln_ap, tup_ap, lst_ap, cv_ap, ck_ap, cl_ap, and_ap, or_ap, not_ap, eif_ap, bval_ap, bnot_ap, band_ap, bor_ap, gnam_ap, gtup_ap, gend_ap, gcons_ap, rng_ap, for_ap, loop_nil, setIx_ap, run_ap, M.ret, unpk, asB, back, retS, fit_of, sInt, sBl, fIx, fLen, fAbs, fInt, fList, Mi.isNon, fIsN, fNotN, fCmp, fLt, fLe, fGt, fGe, fAdd, fSub, fNeg, O.frz, Mi.pick, List.getElem?_cons_zero, List.getElem?_cons_succ, List.getElem?_nil, List.set_cons_zero, List.set_cons_succ, List.map_cons, List.map_nil, List.length_cons, List.length_nil, List.replicate_succ, List.replicate_zero, List.cons_append, List.nil_append, Option.map_some, Option.map_none, if_true, if_false, Bool.false_eq_true, Bool.not_true, Bool.not_false, decide_true, decide_false, reduceIte, ne_eq, not_true_eq_false, not_false_eq_true, List.getD_cons_zero, List.getD_cons_succ, Nat.reduceAdd, Nat.reduceSub, Nat.reduceLeDiff, Nat.reduceEqDiff, atI_0, atI_1, atI_2]
theorem need_two_1 {p q : D} (hp : Bad p) : f_need_two [.val p, .val q] = .exc "BadRatio" [("part", .str "one")] [.non, .non] := by
  simp only [f_need_two, m_need_two, fun w => need_ratio_no (w := w) hp, bnd_ap, of_ap, seq_ap, asg_ap, ret_ap, retN_ap, sif_ap, expr_ap, par_ap, par3_ap, asgT_ap, nil_ap, brk_ap, cnt_ap, give_val, give_own, give_ali, take_val, take_own, take_ali, ta_nil, ta_cons, pk_val, pk_own, pk_ali, pa_nil', pa_cons', var_ap, lit_ap, op_ap, un_ap, cb_ap, lc_ap, ln_ap, tup_ap, lst_ap, cv_ap, ck_ap, cl_ap, and_ap, or_ap, not_ap, eif_ap, bval_ap, bnot_ap, band_ap, bor_ap, gnam_ap, gtup_ap, gend_ap, gcons_ap, rng_ap, for_ap, loop_nil, setIx_ap, run_ap, M.ret, unpk, asB, back, retS, fit_of, sInt, sBl, fIx, fLen, fAbs, fInt, fList, Mi.isNon, fIsN, fNotN, fCmp, fLt, fLe, fGt, fGe, fAdd, fSub, fNeg, O.frz, Mi.pick, List.getElem?_cons_zero, List.getElem?_cons_succ, List.getElem?_nil, List.set_cons_zero, List.set_cons_succ, List.map_cons, List.map_nil, List.length_cons, List.length_nil, List.replicate_succ, List.replicate_zero, List.cons_append, List.nil_append, Option.map_some, Option.map_none, if_true, if_false, Bool.false_eq_true, Bool.not_true, Bool.not_false, decide_true, decide_false, reduceIte, ne_eq, not_true_eq_false, not_false_eq_true, List.getD_cons_zero, List.getD_cons_succ, Nat.reduceAdd, Nat.reduceSub, Nat.reduceLeDiff, Nat.reduceEqDiff, atI_0, atI_1, atI_2]
theorem need_two_2 {p q : D} (hp : Good p) (hq : Bad q) : f_need_two [.val p, .val q] = .exc "BadRatio" [("part", .str "other")] [.non, .non] := by
  simp only [f_need_two, m_need_two, fun w => need_ratio_ok (w := w) hp, fun w => need_ratio_no (w := w) hq, bnd_ap, of_ap, seq_ap, asg_ap, ret_ap, retN_ap, sif_ap, expr_ap, par_ap, par3_ap, asgT_ap, nil_ap, brk_ap, cnt_ap, give_val, give_own, give_ali, take_val, take_own, take_ali, ta_nil, ta_cons, pk_val, pk_own, pk_ali, pa_nil', pa_cons', var_ap, lit_ap, op_ap, un_ap, cb_ap, lc_ap, ln_ap, tup_ap, lst_ap, cv_ap, ck_ap, cl_ap, and_ap, or_ap, not_ap, eif_ap, bval_ap, bnot_ap, band_ap, bor_ap, gnam_ap, gtup_ap, gend_ap, gcons_ap, rng_ap, for_ap, loop_nil, setIx_ap, run_ap, M.ret, unpk, asB, back, retS, fit_of, sInt, sBl, fIx, fLen, fAbs, fInt, fList, Mi.isNon, fIsN, fNotN, fCmp, fLt, fLe, fGt, fGe, fAdd, fSub, fNeg, O.frz, Mi.pick, List.getElem?_cons_zero, List.getElem?_cons_succ, List.getElem?_nil, List.set_cons_zero, List.set_cons_succ, List.map_cons, List.map_nil, List.length_cons, List.length_nil, List.replicate_succ, List.replicate_zero, List.cons_append, List.nil_append, Option.map_some, Option.map_none, if_true, if_false, Bool.false_eq_true, Bool.not_true, Bool.not_false, decide_true, decide_false, reduceIte, ne_eq, not_true_eq_false, not_false_eq_true, List.getD_cons_zero, List.getD_cons_succ, Nat.reduceAdd, Nat.reduceSub, Nat.reduceLeDiff, Nat.reduceEqDiff, atI_0, atI_1, atI_2]
section
variable {x y : Rat} {p q : D} (hp : IsP x p) (hq : IsP y q) (hx : Sz x) (hy : Sz y)
include hp hq hx hy
theorem plus_ok : f_plus [.val p, .val q] = .ok (.val (pr (x + y)), [.non, .non]) := by
  simp only [f_plus, m_plus, need_two_ok (is_ratio_ok hp) (is_ratio_ok hq), added_ok hp hq hx hy, bnd_ap, of_ap, seq_ap, asg_ap, ret_ap, retN_ap, sif_ap, expr_ap, par_ap, par3_ap, asgT_ap, nil_ap, brk_ap, cnt_ap, give_val, give_own, give_ali, take_val, take_own, take_ali, ta_nil, ta_cons, pk_val, pk_own, pk_ali, pa_nil', pa_cons', var_ap, lit_ap, op_ap, un_ap, cb_ap, lc_ap, ln_ap, tup_ap, lst_ap, cv_ap, ck_ap, cl_ap, and_ap, or_ap, not_ap, eif_ap, bval_ap, bnot_ap, band_ap, bor_ap, gnam_ap, gtup_ap, gend_ap, gcons_ap, rng_ap, for_ap, loop_nil, setIx_ap, run_ap, M.ret, unpk, asB, back, retS, fit_of, sInt, sBl, fIx, fLen, fAbs, fInt, fList, Mi.isNon, fIsN, fNotN, fCmp, fLt, fLe, fGt, fGe, fAdd, fSub, fNeg, O.frz, Mi.pick, List.getElem?_cons_zero, List.getElem?_cons_succ, List.getElem?_nil, List.set_cons_zero, List.set_cons_succ, List.map_cons, List.map_nil, List.length_cons, List.length_nil, List.replicate_succ, List.replicate_zero, List.cons_append, List.nil_append, Option.map_some, Option.map_none, if_true, if_false, Bool.false_eq_true, Bool.not_true, Bool.not_false, decide_true, decide_false, reduceIte, ne_eq, not_true_eq_false, not_false_eq_true, List.getD_cons_zero, List.getD_cons_succ, Nat.reduceAdd, Nat.reduceSub, Nat.reduceLeDiff, Nat.reduceEqDiff, atI_0, atI_1, atI_2]
theorem minus_ok : f_minus [.val p, .val q] = .ok (.val (pr (x - y)), [.non, .non]) := by
  simp only [f_minus, m_minus, need_two_ok (is_ratio_ok hp) (is_ratio_ok hq), taken_ok hp hq hx hy, bnd_ap, of_ap, seq_ap, asg_ap, ret_ap, retN_ap, sif_ap, expr_ap, par_ap, par3_ap, asgT_ap, nil_ap, brk_ap, cnt_ap, give_val, give_own, give_ali, take_val, take_own, take_ali, ta_nil, ta_cons, pk_val, pk_own, pk_ali, pa_nil', pa_cons', var_ap, lit_ap, op_ap, un_ap, cb_ap, lc_ap, ln_ap, tup_ap, lst_ap, cv_ap, ck_ap, cl_ap, and_ap, or_ap, not_ap, eif_ap, bval_ap, bnot_ap, band_ap, bor_ap, gnam_ap, gtup_ap, gend_ap, gcons_ap, rng_ap, for_ap, loop_nil, setIx_ap, run_ap, M.ret, unpk, asB, back, retS, fit_of, sInt, sBl, fIx, fLen, fAbs, fInt, fList, Mi.isNon, fIsN, fNotN, fCmp, fLt, fLe, fGt, fGe, fAdd, fSub, fNeg, O.frz, Mi.pick, List.getElem?_cons_zero, List.getElem?_cons_succ, List.getElem?_nil, List.set_cons_zero, List.set_cons_succ, List.map_cons, List.map_nil, List.length_cons, List.length_nil, List.replicate_succ, List.replicate_zero, List.cons_append, List.nil_append, Option.map_some, Option.map_none, if_true, if_false, Bool.false_eq_true, Bool.not_true, Bool.not_false, decide_true, decide_false, reduceIte, ne_eq, not_true_eq_false, not_false_eq_true, List.getD_cons_zero, List.getD_cons_succ, Nat.reduceAdd, Nat.reduceSub, Nat.reduceLeDiff, Nat.reduceEqDiff, atI_0, atI_1, atI_2]
theorem times_ok : f_times [.val p, .val q] = .ok (.val (pr (x * y)), [.non, .non]) := by
  simp only [f_times, m_times, need_two_ok (is_ratio_ok hp) (is_ratio_ok hq), multiplied_ok hp hq hx hy, bnd_ap, of_ap, seq_ap, asg_ap, ret_ap, retN_ap, sif_ap, expr_ap, par_ap, par3_ap, asgT_ap, nil_ap, brk_ap, cnt_ap, give_val, give_own, give_ali, take_val, take_own, take_ali, ta_nil, ta_cons, pk_val, pk_own, pk_ali, pa_nil', pa_cons', var_ap, lit_ap, op_ap, un_ap, cb_ap, lc_ap, ln_ap, tup_ap, lst_ap, cv_ap, ck_ap, cl_ap, and_ap, or_ap, not_ap, eif_ap, bval_ap, bnot_ap, band_ap, bor_ap, gnam_ap, gtup_ap, gend_ap, gcons_ap, rng_ap, for_ap, loop_nil, setIx_ap, run_ap, M.ret, unpk, asB, back, retS, fit_of, sInt, sBl, fIx, fLen, fAbs, fInt, fList, Mi.isNon, fIsN, fNotN, fCmp, fLt, fLe, fGt, fGe, fAdd, fSub, fNeg, O.frz, Mi.pick, List.getElem?_cons_zero, List.getElem?_cons_succ, List.getElem?_nil, List.set_cons_zero, List.set_cons_succ, List.map_cons, List.map_nil, List.length_cons, List.length_nil, List.replicate_succ, List.replicate_zero, List.cons_append, List.nil_append, Option.map_some, Option.map_none, if_true, if_false, Bool.false_eq_true, Bool.not_true, Bool.not_false, decide_true, decide_false, reduceIte, ne_eq, not_true_eq_false, not_false_eq_true, List.getD_cons_zero, List.getD_cons_succ, Nat.reduceAdd, Nat.reduceSub, Nat.reduceLeDiff, Nat.reduceEqDiff, atI_0, atI_1, atI_2]
theorem over_ok (h0 : y.num ≠ 0) : f_over [.val p, .val q] = .ok (.val (pr (x / y)), [.non, .non]) := by
  have e : (y.num == 0) = false := by simpa using h0
  have n2 := need_two_ok (is_ratio_ok hp) (is_ratio_ok hq)
  have dv := divided_ok hp hq hx hy h0
  rcases hq with rfl | rfl <;> simp only [f_over, m_over, n2, dv, eq_int, e, bnd_ap, of_ap, seq_ap, asg_ap, ret_ap, retN_ap, sif_ap, expr_ap, par_ap, par3_ap, asgT_ap, nil_ap, brk_ap, cnt_ap, give_val, give_own, give_ali, take_val, take_own, take_ali, ta_nil, ta_cons, pk_val, pk_own, pk_ali, pa_nil', pa_cons', var_ap, lit_ap, op_ap, un_ap, cb_ap, lc_ap, ln_ap, tup_ap, lst_ap, cv_ap, ck_ap, cl_ap, and_ap, or_ap, not_ap, eif_ap, bval_ap, bnot_ap, band_ap, bor_ap, gnam_ap, gtup_ap, gend_ap, gcons_ap, rng_ap, for_ap, loop_nil, setIx_ap, run_ap, M.ret, unpk, asB, back, retS, fit_of, sInt, sBl, fIx, fLen, fAbs, fInt, fList, Mi.isNon, fIsN, fNotN, fCmp, fLt, fLe, fGt, fGe, fAdd, fSub, fNeg, O.frz, Mi.pick, List.getElem?_cons_zero, List.getElem?_cons_succ, List.getElem?_nil, List.set_cons_zero, List.set_cons_succ, List.map_cons, List.map_nil, List.length_cons, List.length_nil, List.replicate_succ, List.replicate_zero, List.cons_append, List.nil_append, Option.map_some, Option.map_none, if_true, if_false, Bool.false_eq_true, Bool.not_true, Bool.not_false, decide_true, decide_false, reduceIte, ne_eq, not_true_eq_false, not_false_eq_true, List.getD_cons_zero, List.getD_cons_succ, Nat.reduceAdd, Nat.reduceSub, Nat.reduceLeDiff, Nat.reduceEqDiff, atI_0, atI_1, atI_2]
theorem over_0 (h0 : y.num = 0) : f_over [.val p, .val q] = .exc "BadRatio" [("part", .str "other")] [.non, .non] := by
  have e : (y.num == 0) = true := by simpa using h0
  have n2 := need_two_ok (is_ratio_ok hp) (is_ratio_ok hq)
  rcases hq with rfl | rfl <;> simp only [f_over, m_over, n2, eq_int, e, raise_ap, bnd_ap, of_ap, seq_ap, asg_ap, ret_ap, retN_ap, sif_ap, expr_ap, par_ap, par3_ap, asgT_ap, nil_ap, brk_ap, cnt_ap, give_val, give_own, give_ali, take_val, take_own, take_ali, ta_nil, ta_cons, pk_val, pk_own, pk_ali, pa_nil', pa_cons', var_ap, lit_ap, op_ap, un_ap, cb_ap, lc_ap, ln_ap, tup_ap, lst_ap, cv_ap, ck_ap, cl_ap, and_ap, or_ap, not_ap, eif_ap, bval_ap, bnot_ap, band_ap, bor_ap, gnam_ap, gtup_ap, gend_ap, gcons_ap, rng_ap, for_ap, loop_nil, setIx_ap, run_ap, M.ret, unpk, asB, back, retS, fit_of, sInt, sBl, fIx, fLen, fAbs, fInt, fList, Mi.isNon, fIsN, fNotN, fCmp, fLt, fLe, fGt, fGe, fAdd, fSub, fNeg, O.frz, Mi.pick, List.getElem?_cons_zero, List.getElem?_cons_succ, List.getElem?_nil, List.set_cons_zero, List.set_cons_succ, List.map_cons, List.map_nil, List.length_cons, List.length_nil, List.replicate_succ, List.replicate_zero, List.cons_append, List.nil_append, Option.map_some, Option.map_none, if_true, if_false, Bool.false_eq_true, Bool.not_true, Bool.not_false, decide_true, decide_false, reduceIte, ne_eq, not_true_eq_false, not_false_eq_true, List.getD_cons_zero, List.getD_cons_succ, Nat.reduceAdd, Nat.reduceSub, Nat.reduceLeDiff, Nat.reduceEqDiff, atI_0, atI_1, atI_2] <;> rfl
def cmpI (a b : Int) : Int := (if decide (b < a) = true then 1 else 0) - (if decide (a < b) = true then 1 else 0)
theorem compared_ok : f_compared [.val p, .val q] = .ok (.val (.int (cmpI (x.num * y.den) (y.num * x.den))), [.non, .non]) := by
  simp only [f_compared, m_compared, need_two_ok (is_ratio_ok hp) (is_ratio_ok hq), is_less_ok hp hq hx hy, is_less_ok hq hp hy hx, cmpI, bnd_ap, of_ap, seq_ap, asg_ap, ret_ap, retN_ap, sif_ap, expr_ap, par_ap, par3_ap, asgT_ap, nil_ap, brk_ap, cnt_ap, give_val, give_own, give_ali, take_val, take_own, take_ali, ta_nil, ta_cons, pk_val, pk_own, pk_ali, pa_nil', pa_cons', var_ap, lit_ap, op_ap, un_ap, cb_ap, lc_ap, ln_ap, tup_ap, lst_ap, cv_ap, ck_ap, cl_ap, and_ap, or_ap, not_ap, eif_ap, bval_ap, bnot_ap, band_ap, bor_ap, gnam_ap, gtup_ap, gend_ap, gcons_ap, rng_ap, for_ap, loop_nil, setIx_ap, run_ap, M.ret, unpk, asB, back, retS, fit_of, sInt, sBl, fIx, fLen, fAbs, fInt, fList, Mi.isNon, fIsN, fNotN, fCmp, fLt, fLe, fGt, fGe, fAdd, fSub, fNeg, O.frz, Mi.pick, List.getElem?_cons_zero, List.getElem?_cons_succ, List.getElem?_nil, List.set_cons_zero, List.set_cons_succ, List.map_cons, List.map_nil, List.length_cons, List.length_nil, List.replicate_succ, List.replicate_zero, List.cons_append, List.nil_append, Option.map_some, Option.map_none, if_true, if_false, Bool.false_eq_true, Bool.not_true, Bool.not_false, decide_true, decide_false, reduceIte, ne_eq, not_true_eq_false, not_false_eq_true, List.getD_cons_zero, List.getD_cons_succ, Nat.reduceAdd, Nat.reduceSub, Nat.reduceLeDiff, Nat.reduceEqDiff, atI_0, atI_1, atI_2]
end
theorem ops_1 {p q : D} (hp : Bad p) : f_plus [.val p, .val q] = .exc "BadRatio" [("part", .str "one")] [.non, .non] ∧ f_minus [.val p, .val q] = .exc "BadRatio" [("part", .str "one")] [.non, .non] ∧ f_times [.val p, .val q] = .exc "BadRatio" [("part", .str "one")] [.non, .non] ∧
    f_over [.val p, .val q] = .exc "BadRatio" [("part", .str "one")] [.non, .non] ∧ f_compared [.val p, .val q] = .exc "BadRatio" [("part", .str "one")] [.non, .non] := by
  have h := need_two_1 (q := q) hp
  refine ⟨?_, ?_, ?_, ?_, ?_⟩ <;> simp only [f_plus, m_plus, f_minus, m_minus, f_times, m_times, f_over, m_over, f_compared, m_compared, h, bnd_ap, of_ap, seq_ap, asg_ap, ret_ap, retN_ap, sif_ap, expr_ap, par_ap, par3_ap, asgT_ap, nil_ap, brk_ap, cnt_ap, give_val, give_own, give_ali, take_val, take_own, take_ali, ta_nil, ta_cons, pk_val, pk_own, pk_ali, pa_nil', pa_cons', var_ap, lit_ap, op_ap, un_ap, cb_ap, lc_ap, ln_ap, tup_ap, lst_ap, cv_ap, ck_ap, cl_ap, and_ap, or_ap, not_ap, eif_ap, bval_ap, bnot_ap, band_ap, bor_ap, gnam_ap, gtup_ap, gend_ap, gcons_ap, rng_ap, for_ap, loop_nil, setIx_ap, run_ap, M.ret, unpk, asB, back, retS, fit_of, sInt, sBl, fIx, fLen, fAbs, fInt, fList, Mi.isNon, fIsN, fNotN, fCmp, fLt, fLe, fGt, fGe, fAdd, fSub, fNeg, O.frz, Mi.pick, List.getElem?_cons_zero, List.getElem?_cons_succ, List.getElem?_nil, List.set_cons_zero, List.set_cons_succ, List.map_cons, List.map_nil, List.length_cons, List.length_nil, List.replicate_succ, List.replicate_zero, List.cons_append, List.nil_append, Option.map_some, Option.map_none, if_true, if_false, Bool.false_eq_true, Bool.not_true, Bool.not_false, decide_true, decide_false, reduceIte, ne_eq, not_true_eq_false, not_false_eq_true, List.getD_cons_zero, List.getD_cons_succ, Nat.reduceAdd, Nat.reduceSub, Nat.reduceLeDiff, Nat.reduceEqDiff, atI_0, atI_1, atI_2]
theorem ops_2 {p q : D} (hp : Good p) (hq : Bad q) : f_plus [.val p, .val q] = .exc "BadRatio" [("part", .str "other")] [.non, .non] ∧ f_minus [.val p, .val q] = .exc "BadRatio" [("part", .str "other")] [.non, .non] ∧ f_times [.val p, .val q] = .exc "BadRatio" [("part", .str "other")] [.non, .non] ∧
    f_over [.val p, .val q] = .exc "BadRatio" [("part", .str "other")] [.non, .non] ∧ f_compared [.val p, .val q] = .exc "BadRatio" [("part", .str "other")] [.non, .non] := by
  have h := need_two_2 hp hq
  refine ⟨?_, ?_, ?_, ?_, ?_⟩ <;> simp only [f_plus, m_plus, f_minus, m_minus, f_times, m_times, f_over, m_over, f_compared, m_compared, h, bnd_ap, of_ap, seq_ap, asg_ap, ret_ap, retN_ap, sif_ap, expr_ap, par_ap, par3_ap, asgT_ap, nil_ap, brk_ap, cnt_ap, give_val, give_own, give_ali, take_val, take_own, take_ali, ta_nil, ta_cons, pk_val, pk_own, pk_ali, pa_nil', pa_cons', var_ap, lit_ap, op_ap, un_ap, cb_ap, lc_ap, ln_ap, tup_ap, lst_ap, cv_ap, ck_ap, cl_ap, and_ap, or_ap, not_ap, eif_ap, bval_ap, bnot_ap, band_ap, bor_ap, gnam_ap, gtup_ap, gend_ap, gcons_ap, rng_ap, for_ap, loop_nil, setIx_ap, run_ap, M.ret, unpk, asB, back, retS, fit_of, sInt, sBl, fIx, fLen, fAbs, fInt, fList, Mi.isNon, fIsN, fNotN, fCmp, fLt, fLe, fGt, fGe, fAdd, fSub, fNeg, O.frz, Mi.pick, List.getElem?_cons_zero, List.getElem?_cons_succ, List.getElem?_nil, List.set_cons_zero, List.set_cons_succ, List.map_cons, List.map_nil, List.length_cons, List.length_nil, List.replicate_succ, List.replicate_zero, List.cons_append, List.nil_append, Option.map_some, Option.map_none, if_true, if_false, Bool.false_eq_true, Bool.not_true, Bool.not_false, decide_true, decide_false, reduceIte, ne_eq, not_true_eq_false, not_false_eq_true, List.getD_cons_zero, List.getD_cons_succ, Nat.reduceAdd, Nat.reduceSub, Nat.reduceLeDiff, Nat.reduceEqDiff, atI_0, atI_1, atI_2]
end K04

namespace K04
open PySem PySem.Spec PyProof.Rows L2 Mi
/-! #### the vat -/
def Vt (cells : List Int) (sp st : Int) : O := .lst [.lst (cells.map .int), .int sp, .int st]
theorem pys_ints : ∀ l : List Int, D.pys (l.map .int) = some (l.map PyData.int)
  | [] => rfl
  | i :: l => by simp only [List.map_cons, D.pys, D.py, pys_ints l]
theorem lay_ints : ∀ l : List Int, PyData.canLayAll0 (l.map .int) = true ∧ PyData.depthAll (l.map .int) = 0
  | [] => ⟨rfl, rfl⟩
  | i :: l => by
    obtain ⟨h1, h2⟩ := lay_ints l
    constructor
    · simp only [List.map_cons, PyData.canLayAll0, PyData.canLay0, h1, Bool.and_self]
    · simp only [List.map_cons, PyData.depthAll, PyData.depth, h2, Nat.max_self]
theorem shaped_ints (l : List Int) : SeqAt.shaped (.list (l.map .int)) = true := by
  obtain ⟨h1, h2⟩ := lay_ints l
  simp only [SeqAt.shaped, PyData.canLay0, PyData.depth, h1, h2]
  rfl
theorem ne_nil (l : List Int) : fNe (.lst (l.map .int)) (.lst []) = some (.val (.bl (!l.isEmpty))) := by
  have h0 := shaped_ints []
  rw [List.map_nil] at h0
  have e : eqD (.lst (l.map .int)) (.lst []) = some l.isEmpty := by
    unfold eqD
    have e1 : D.py (.lst (l.map .int)) = some (.list (l.map .int)) := by simp only [D.py, pys_ints, Option.map_some]
    have e2 : D.py (.lst []) = some (.list []) := rfl
    rw [e1, e2]
    simp only [shaped_ints, h0, and_self, if_true]
    cases l <;> simp [PyData.eqv, PyData.eqvAll]
  simp only [fNe, e, Option.map_some]
theorem pow_ok {i j : Int} (h : i.natAbs < 2 ^ 64) (h0 : 0 ≤ j) (h1 : j ≤ 100) : fPow (.int i) (.int j) = some (.val (.int (i ^ j.toNat))) := by
  have b : Builtin.Int.intBits i ≤ 64 := by
    unfold Builtin.Int.intBits
    split
    · omega
    · rename_i hz
      have : i.natAbs.log2 < 64 := (Nat.log2_lt (by simpa using hz)).mpr h
      omega
  have : powFits i j = true := by
    unfold powFits
    have h2 : (Builtin.Int.intBits i : Int) * j ≤ 64 * 100 := Int.mul_le_mul (by omega) h1 h0 (by omega)
    rw [decide_eq_true h0, decide_eq_true (by omega : (Builtin.Int.intBits i : Int) * j ≤ 2 ^ 27)]
    rfl
  simp only [fPow, this, if_true, sInt]
theorem ab_mul {a b : Int} {p q : Nat} (h1 : a.natAbs < 2 ^ p) (h2 : b.natAbs < 2 ^ q) : (a * b).natAbs < 2 ^ (p + q) := by
  rw [Int.natAbs_mul, Nat.pow_add]
  exact Nat.mul_lt_mul'' h1 h2
theorem mul_l {i j : Int} (h : i.natAbs < 2 ^ 60) : fMul (.int i) (.int j) = some (.val (.int (i * j))) := by
  have : mulFits i j = true := by
    unfold mulFits
    rw [Bool.or_eq_true]
    right
    rw [Bool.and_eq_true]
    exact ⟨decide_eq_true (by omega), decide_eq_true (by omega)⟩
  simp only [fMul, this, if_true, sInt]
theorem ix_ints {cells : List Int} {k : Int} (h0 : 0 ≤ k) (h1 : k < cells.length) : ∃ c : Int, atI (cells.map D.int) k = some (.int c) := by
  obtain ⟨j, rfl⟩ := Int.eq_ofNat_of_zero_le h0
  have hj : j < cells.length := by omega
  refine ⟨cells[j], ?_⟩
  have hl : ((j : Nat) : Int) < ((cells.map D.int).length : Int) := by rw [List.length_map]; omega
  simp only [atI, ixN, hl, if_true, Int.toNat_natCast, Option.bind_some, List.getElem?_map]
  rw [if_pos (by omega)]
  simp only [Option.bind_some, Int.toNat_natCast, List.getElem?_map, List.getElem?_eq_getElem hj, Option.map_some]
theorem onL_lent (τ : List Mi.S) (j : Nat) (xs ys : List D) (f : List D → Option (List D)) (h : f xs = some ys) (r : List Mi.S) (hτ : τ = .lent j (.lst xs) :: r) : onL 0 f τ = .ok ((), .lent j (.lst ys) :: r) := by
  subst hτ
  simp only [onL, List.getElem?_cons_zero, h, List.set_cons_zero]
theorem set2 (a b c d : D) : setD (.int 2) d [a, b, c] = some [a, b, d] := rfl
theorem set1 (a b c d : D) : setD (.int 1) d [a, b, c] = some [a, d, c] := rfl
def dipT : M Fl := (sSeq (sAsg 6 (eOp fMod (eCB fInt (lCons (eOp fPow (eOp fAdd (eOp fAdd (eOp fMod (eCB fInt (lCons (eVar 5) (lNil))) (eLit (.int 2147483587))) (eOp fMul (eLit (.int 31019)) (eVar 4))) (eLit (.int 2011))) (eLit (.int 5))) (lNil))) (eLit (.int 2147483549)))) (sSeq (sAsg 6 (eOp fMod (eCB fInt (lCons (eOp fPow (eOp fAdd (eOp fAdd (eOp fMul (eVar 6) (eOp fAdd (eOp fMul (eLit (.int 2)) (eVar 4)) (eLit (.int 1013)))) (eOp fMul (eOp fMul (eLit (.int 53017)) (eVar 4)) (eVar 4))) (eLit (.int 6011))) (eLit (.int 3))) (lNil))) (eLit (.int 2147483629)))) (sRet (eOp fMod (eCB fInt (lCons (eOp fDiv (eVar 6) (eLit (.int 64))) (lNil))) (eVar 1)))))
theorem dipT_eq : (sSeq (sAsg 6 (eOp fMod (eCB fInt (lCons (eOp fPow (eOp fAdd (eOp fAdd (eOp fMod (eCB fInt (lCons (eVar 5) (lNil))) (eLit (.int 2147483587))) (eOp fMul (eLit (.int 31019)) (eVar 4))) (eLit (.int 2011))) (eLit (.int 5))) (lNil))) (eLit (.int 2147483549)))) (sSeq (sAsg 6 (eOp fMod (eCB fInt (lCons (eOp fPow (eOp fAdd (eOp fAdd (eOp fMul (eVar 6) (eOp fAdd (eOp fMul (eLit (.int 2)) (eVar 4)) (eLit (.int 1013)))) (eOp fMul (eOp fMul (eLit (.int 53017)) (eVar 4)) (eVar 4))) (eLit (.int 6011))) (eLit (.int 3))) (lNil))) (eLit (.int 2147483629)))) (sRet (eOp fMod (eCB fInt (lCons (eOp fDiv (eVar 6) (eLit (.int 64))) (lNil))) (eVar 1))))) = dipT := rfl
theorem dip_tail {cells : List Int} {sp st many : Int} (h1 : 0 ≤ sp) (h2 : sp < 2 ^ 20) (h4 : 0 < many) (cell : Int) : ∃ (v : Int) (r6 : Mi.S), dipT
    [.lent 0 (Vt cells (sp + 1) st), .val (.int many), .non, .val (.lst (cells.map .int)), .val (.int sp), .val (.int cell), .non] = .ok (.rt (.val (.int v)), [.lent 0 (Vt cells (sp + 1) st), .val (.int many), .non, .val (.lst (cells.map .int)), .val (.int sp), .val (.int cell), r6]) ∧ 0 ≤ v ∧ v < many := by
  have md := fun i => mod_ok (i := i) h4
  have w2 := mul_l (i := 31019) (j := sp) (by decide)
  have w3 := mul_l (i := 2) (j := sp) (by decide)
  have w4 := mul_l (i := 53017) (j := sp) (by decide)
  have w6 := mul_l (i := 53017 * sp) (j := sp) (by omega)
  have e1 := fun i => mod_ok (i := i) (j := 2147483587) (by decide)
  have e2 := fun i => mod_ok (i := i) (j := 2147483549) (by decide)
  have e3 := fun i => mod_ok (i := i) (j := 2147483629) (by decide)
  have e4 := fun i => div_ok (i := i) (j := 64) (by decide) (by decide)
  have c1 := Int.emod_nonneg cell (show (2147483587 : Int) ≠ 0 by decide)
  have c2 := Int.emod_lt_of_pos cell (show (0 : Int) < 2147483587 by decide)
  have p5 := pow_ok (i := cell % 2147483587 + 31019 * sp + 2011) (j := 5) (by omega) (by decide) (by decide)
  obtain ⟨m1, hm1⟩ : ∃ m1, m1 = (cell % 2147483587 + 31019 * sp + 2011) ^ (5 : Int).toNat % 2147483549 := ⟨_, rfl⟩
  have d1 := Int.emod_nonneg ((cell % 2147483587 + 31019 * sp + 2011) ^ (5 : Int).toNat) (show (2147483549 : Int) ≠ 0 by decide)
  have d2 := Int.emod_lt_of_pos ((cell % 2147483587 + 31019 * sp + 2011) ^ (5 : Int).toNat) (show (0 : Int) < 2147483549 by decide)
  have w7 := mul_l (i := m1) (j := 2 * sp + 1013) (by rw [hm1]; omega)
  have a1 := ab_mul (a := m1) (b := 2 * sp + 1013) (p := 31) (q := 22) (by rw [hm1]; omega) (by omega)
  have a2 := ab_mul (a := 53017 * sp) (b := sp) (p := 36) (q := 20) (by omega) (by omega)
  have p3 := pow_ok (i := m1 * (2 * sp + 1013) + 53017 * sp * sp + 6011) (j := 3) (by omega) (by decide) (by decide)
  refine ⟨((m1 * (2 * sp + 1013) + 53017 * sp * sp + 6011) ^ (3 : Int).toNat % 2147483629).fdiv 64 % many, .val (.int ((m1 * (2 * sp + 1013) + 53017 * sp * sp + 6011) ^ (3 : Int).toNat % 2147483629)), ?_, Int.emod_nonneg _ (by omega), Int.emod_lt_of_pos _ h4⟩
  simp only [dipT, e1, e2, e3, e4, w2, w3, w4, w6, p5, ← hm1, w7, p3, md, bnd_ap, of_ap, seq_ap, asg_ap, ret_ap, retN_ap, sif_ap, expr_ap, par_ap, par3_ap, asgT_ap, nil_ap, brk_ap, cnt_ap, give_val, give_own, give_ali, take_val, take_own, take_ali, ta_nil, ta_cons, pk_val, pk_own, pk_ali, pa_nil', pa_cons', var_ap, lit_ap, op_ap, un_ap, cb_ap, lc_ap, ln_ap, tup_ap, lst_ap, cv_ap, ck_ap, cl_ap, and_ap, or_ap, not_ap, eif_ap, bval_ap, bnot_ap, band_ap, bor_ap, gnam_ap, gtup_ap, gend_ap, gcons_ap, rng_ap, for_ap, loop_nil, setIx_ap, run_ap, M.ret, unpk, asB, back, retS, fit_of, sInt, sBl, fIx, fLen, fAbs, fInt, fList, Mi.isNon, fIsN, fNotN, fCmp, fLt, fLe, fGt, fGe, fAdd, fSub, fNeg, O.frz, Mi.pick, List.getElem?_cons_zero, List.getElem?_cons_succ, List.getElem?_nil, List.set_cons_zero, List.set_cons_succ, List.map_cons, List.map_nil, List.length_cons, List.length_nil, List.replicate_succ, List.replicate_zero, List.cons_append, List.nil_append, Option.map_some, Option.map_none, if_true, if_false, Bool.false_eq_true, Bool.not_true, Bool.not_false, decide_true, decide_false, reduceIte, ne_eq, not_true_eq_false, not_false_eq_true, List.getD_cons_zero, List.getD_cons_succ, Nat.reduceAdd, Nat.reduceSub, Nat.reduceLeDiff, Nat.reduceEqDiff, atI_0, atI_1, atI_2]
theorem dip_ok {cells : List Int} {sp st many : Int} (hl : cells.length ≤ 60) (h1 : 0 ≤ sp) (h2 : sp < 2 ^ 20) (h3 : 0 ≤ st) (h4 : 0 < many) (h5 : many < 2 ^ 62) :
    ∃ v sp' st' : Int, f__law_dip [.lent 0 (Vt cells sp st), .val (.int many)] = .ok (.val (.int v), [.lent 0 (Vt cells sp' st'), .non]) ∧ 0 ≤ v ∧ v < many ∧ 0 ≤ sp' ∧ sp' ≤ sp + 1 ∧ 0 ≤ st' := by
  have dv := fun i => div_ok (i := i) (j := many) (by omega) (by omega)
  have md := fun i => mod_ok (i := i) h4
  have fd : ∀ i : Int, i.fdiv many = i / many := fun i => Int.fdiv_eq_ediv_of_nonneg i (by omega)
  by_cases hs : 0 < st
  · refine ⟨st % many, sp, st / many, ?_, Int.emod_nonneg _ (by omega), Int.emod_lt_of_pos _ h4, h1, by omega, Int.ediv_nonneg h3 (by omega)⟩
    simp only [f__law_dip, m__law_dip, Vt, onL, set2, set1, dv, md, hs, fd, bnd_ap, of_ap, seq_ap, asg_ap, ret_ap, retN_ap, sif_ap, expr_ap, par_ap, par3_ap, asgT_ap, nil_ap, brk_ap, cnt_ap, give_val, give_own, give_ali, take_val, take_own, take_ali, ta_nil, ta_cons, pk_val, pk_own, pk_ali, pa_nil', pa_cons', var_ap, lit_ap, op_ap, un_ap, cb_ap, lc_ap, ln_ap, tup_ap, lst_ap, cv_ap, ck_ap, cl_ap, and_ap, or_ap, not_ap, eif_ap, bval_ap, bnot_ap, band_ap, bor_ap, gnam_ap, gtup_ap, gend_ap, gcons_ap, rng_ap, for_ap, loop_nil, setIx_ap, run_ap, M.ret, unpk, asB, back, retS, fit_of, sInt, sBl, fIx, fLen, fAbs, fInt, fList, Mi.isNon, fIsN, fNotN, fCmp, fLt, fLe, fGt, fGe, fAdd, fSub, fNeg, O.frz, Mi.pick, List.getElem?_cons_zero, List.getElem?_cons_succ, List.getElem?_nil, List.set_cons_zero, List.set_cons_succ, List.map_cons, List.map_nil, List.length_cons, List.length_nil, List.replicate_succ, List.replicate_zero, List.cons_append, List.nil_append, Option.map_some, Option.map_none, if_true, if_false, Bool.false_eq_true, Bool.not_true, Bool.not_false, decide_true, decide_false, reduceIte, ne_eq, not_true_eq_false, not_false_eq_true, List.getD_cons_zero, List.getD_cons_succ, Nat.reduceAdd, Nat.reduceSub, Nat.reduceLeDiff, Nat.reduceEqDiff, atI_0, atI_1, atI_2]
  · have w1 := mul_l (i := 41017) (j := sp) (by decide)
    have w2 := mul_l (i := 31019) (j := sp) (by decide)
    have w3 := mul_l (i := 2) (j := sp) (by decide)
    have w4 := mul_l (i := 53017) (j := sp) (by decide)
    have w5 : ∀ i, fMul (.int 2) (.int i) = some (.val (.int (2 * i))) := fun i => mul_l (by decide)
    have w6 := mul_l (i := 53017 * sp) (j := sp) (by omega)
    have p18 := pow_ok (i := 10) (j := 18) (by decide) (by decide) (by decide)
    by_cases hc : cells = []
    · subst hc
      obtain ⟨v, r6, t1, t2, t3⟩ := dip_tail (cells := []) (st := st) h1 h2 h4 (41017 * sp + 2011)
      refine ⟨v, sp + 1, st, ?_, t2, t3, by omega, by omega, h3⟩
      have hn : fNe (.lst []) (.lst []) = some (.val (.bl false)) := ne_nil []
      have hz : ¬ (sp < 0) := by omega
      simp only [Vt, List.map_nil] at t1
      have hz' : ¬ (sp < ((0 : Nat) : Int)) := by omega
      rw [f__law_dip, run_ap]
      simp only [m__law_dip, dipT_eq]
      simp only [Vt, onL, set1, hs, hn, hz, hz', w1, List.map_nil, Int.natCast_zero, bnd_ap, of_ap, seq_ap, asg_ap, ret_ap, retN_ap, sif_ap, expr_ap, par_ap, par3_ap, asgT_ap, nil_ap, brk_ap, cnt_ap, give_val, give_own, give_ali, take_val, take_own, take_ali, ta_nil, ta_cons, pk_val, pk_own, pk_ali, pa_nil', pa_cons', var_ap, lit_ap, op_ap, un_ap, cb_ap, lc_ap, ln_ap, tup_ap, lst_ap, cv_ap, ck_ap, cl_ap, and_ap, or_ap, not_ap, eif_ap, bval_ap, bnot_ap, band_ap, bor_ap, gnam_ap, gtup_ap, gend_ap, gcons_ap, rng_ap, for_ap, loop_nil, setIx_ap, run_ap, M.ret, unpk, asB, back, retS, fit_of, sInt, sBl, fIx, fLen, fAbs, fInt, fList, Mi.isNon, fIsN, fNotN, fCmp, fLt, fLe, fGt, fGe, fAdd, fSub, fNeg, O.frz, Mi.pick, List.getElem?_cons_zero, List.getElem?_cons_succ, List.getElem?_nil, List.set_cons_zero, List.set_cons_succ, List.map_cons, List.map_nil, List.length_cons, List.length_nil, List.replicate_succ, List.replicate_zero, List.cons_append, List.nil_append, Option.map_some, Option.map_none, if_true, if_false, Bool.false_eq_true, Bool.not_true, Bool.not_false, decide_true, decide_false, reduceIte, ne_eq, not_true_eq_false, not_false_eq_true, List.getD_cons_zero, List.getD_cons_succ, Nat.reduceAdd, Nat.reduceSub, Nat.reduceLeDiff, Nat.reduceEqDiff, atI_0, atI_1, atI_2, t1]
    · have hn := ne_nil cells
      have he : cells.isEmpty = false := by simpa using hc
      rw [he] at hn
      have lp : 0 < cells.length := List.length_pos_iff.mpr hc
      have ml := mod_ok (i := sp) (j := (cells.length : Int)) (by omega)
      obtain ⟨c, hx⟩ := ix_ints (cells := cells) (k := sp % (cells.length : Int)) (Int.emod_nonneg _ (by omega)) (Int.emod_lt_of_pos _ (by omega))
      obtain ⟨v, r6, t1, t2, t3⟩ := dip_tail (cells := cells) (st := st) h1 h2 h4 c
      simp only [Vt] at t1
      have ll : ((cells.map D.int).length : Int) = (cells.length : Int) := by rw [List.length_map]
      by_cases hb : sp < (cells.length : Int) ∧ (10 : Int) ^ (18 : Int).toNat ≤ (c.natAbs : Int)
      · obtain ⟨hb1, hb2⟩ := hb
        have q0 : (0 : Int) ≤ 2 * ((c.natAbs : Int) - 10 ^ (18 : Int).toNat) + (if decide (c < 0) = true then 1 else 0) := by split <;> omega
        refine ⟨(2 * ((c.natAbs : Int) - 10 ^ (18 : Int).toNat) + (if decide (c < 0) = true then 1 else 0)) % many, sp + 1, (2 * ((c.natAbs : Int) - 10 ^ (18 : Int).toNat) + (if decide (c < 0) = true then 1 else 0)) / many, ?_, Int.emod_nonneg _ (by omega), Int.emod_lt_of_pos _ h4, by omega, by omega, Int.ediv_nonneg q0 (by omega)⟩
        rw [f__law_dip, run_ap]
        simp only [m__law_dip, dipT_eq]
        simp only [Vt, onL, set1, set2, hs, hn, ml, hx, ll, hb1, hb2, p18, w1, w5, dv, md, fd, abs_eq, bnd_ap, of_ap, seq_ap, asg_ap, ret_ap, retN_ap, sif_ap, expr_ap, par_ap, par3_ap, asgT_ap, nil_ap, brk_ap, cnt_ap, give_val, give_own, give_ali, take_val, take_own, take_ali, ta_nil, ta_cons, pk_val, pk_own, pk_ali, pa_nil', pa_cons', var_ap, lit_ap, op_ap, un_ap, cb_ap, lc_ap, ln_ap, tup_ap, lst_ap, cv_ap, ck_ap, cl_ap, and_ap, or_ap, not_ap, eif_ap, bval_ap, bnot_ap, band_ap, bor_ap, gnam_ap, gtup_ap, gend_ap, gcons_ap, rng_ap, for_ap, loop_nil, setIx_ap, run_ap, M.ret, unpk, asB, back, retS, fit_of, sInt, sBl, fIx, fLen, fAbs, fInt, fList, Mi.isNon, fIsN, fNotN, fCmp, fLt, fLe, fGt, fGe, fAdd, fSub, fNeg, O.frz, Mi.pick, List.getElem?_cons_zero, List.getElem?_cons_succ, List.getElem?_nil, List.set_cons_zero, List.set_cons_succ, List.map_cons, List.map_nil, List.length_cons, List.length_nil, List.replicate_succ, List.replicate_zero, List.cons_append, List.nil_append, Option.map_some, Option.map_none, if_true, if_false, Bool.false_eq_true, Bool.not_true, Bool.not_false, decide_true, decide_false, reduceIte, ne_eq, not_true_eq_false, not_false_eq_true, List.getD_cons_zero, List.getD_cons_succ, Nat.reduceAdd, Nat.reduceSub, Nat.reduceLeDiff, Nat.reduceEqDiff, atI_0, atI_1, atI_2]
      · refine ⟨v, sp + 1, st, ?_, t2, t3, by omega, by omega, h3⟩
        by_cases hb1 : sp < (cells.length : Int)
        · have hb2 : ¬ ((10 : Int) ^ (18 : Int).toNat ≤ (c.natAbs : Int)) := fun z => hb ⟨hb1, z⟩
          rw [f__law_dip, run_ap]
          simp only [m__law_dip, dipT_eq]
          simp only [Vt, onL, set1, hs, hn, ml, hx, ll, hb1, hb2, p18, w1, abs_eq, bnd_ap, of_ap, seq_ap, asg_ap, ret_ap, retN_ap, sif_ap, expr_ap, par_ap, par3_ap, asgT_ap, nil_ap, brk_ap, cnt_ap, give_val, give_own, give_ali, take_val, take_own, take_ali, ta_nil, ta_cons, pk_val, pk_own, pk_ali, pa_nil', pa_cons', var_ap, lit_ap, op_ap, un_ap, cb_ap, lc_ap, ln_ap, tup_ap, lst_ap, cv_ap, ck_ap, cl_ap, and_ap, or_ap, not_ap, eif_ap, bval_ap, bnot_ap, band_ap, bor_ap, gnam_ap, gtup_ap, gend_ap, gcons_ap, rng_ap, for_ap, loop_nil, setIx_ap, run_ap, M.ret, unpk, asB, back, retS, fit_of, sInt, sBl, fIx, fLen, fAbs, fInt, fList, Mi.isNon, fIsN, fNotN, fCmp, fLt, fLe, fGt, fGe, fAdd, fSub, fNeg, O.frz, Mi.pick, List.getElem?_cons_zero, List.getElem?_cons_succ, List.getElem?_nil, List.set_cons_zero, List.set_cons_succ, List.map_cons, List.map_nil, List.length_cons, List.length_nil, List.replicate_succ, List.replicate_zero, List.cons_append, List.nil_append, Option.map_some, Option.map_none, if_true, if_false, Bool.false_eq_true, Bool.not_true, Bool.not_false, decide_true, decide_false, reduceIte, ne_eq, not_true_eq_false, not_false_eq_true, List.getD_cons_zero, List.getD_cons_succ, Nat.reduceAdd, Nat.reduceSub, Nat.reduceLeDiff, Nat.reduceEqDiff, atI_0, atI_1, atI_2, t1]
        · rw [f__law_dip, run_ap]
          simp only [m__law_dip, dipT_eq]
          simp only [Vt, onL, set1, hs, hn, ml, hx, ll, hb1, w1, bnd_ap, of_ap, seq_ap, asg_ap, ret_ap, retN_ap, sif_ap, expr_ap, par_ap, par3_ap, asgT_ap, nil_ap, brk_ap, cnt_ap, give_val, give_own, give_ali, take_val, take_own, take_ali, ta_nil, ta_cons, pk_val, pk_own, pk_ali, pa_nil', pa_cons', var_ap, lit_ap, op_ap, un_ap, cb_ap, lc_ap, ln_ap, tup_ap, lst_ap, cv_ap, ck_ap, cl_ap, and_ap, or_ap, not_ap, eif_ap, bval_ap, bnot_ap, band_ap, bor_ap, gnam_ap, gtup_ap, gend_ap, gcons_ap, rng_ap, for_ap, loop_nil, setIx_ap, run_ap, M.ret, unpk, asB, back, retS, fit_of, sInt, sBl, fIx, fLen, fAbs, fInt, fList, Mi.isNon, fIsN, fNotN, fCmp, fLt, fLe, fGt, fGe, fAdd, fSub, fNeg, O.frz, Mi.pick, List.getElem?_cons_zero, List.getElem?_cons_succ, List.getElem?_nil, List.set_cons_zero, List.set_cons_succ, List.map_cons, List.map_nil, List.length_cons, List.length_nil, List.replicate_succ, List.replicate_zero, List.cons_append, List.nil_append, Option.map_some, Option.map_none, if_true, if_false, Bool.false_eq_true, Bool.not_true, Bool.not_false, decide_true, decide_false, reduceIte, ne_eq, not_true_eq_false, not_false_eq_true, List.getD_cons_zero, List.getD_cons_succ, Nat.reduceAdd, Nat.reduceSub, Nat.reduceLeDiff, Nat.reduceEqDiff, atI_0, atI_1, atI_2, t1]
end K04

namespace K04
open PySem PySem.Spec PyProof.Rows L2 Mi
/-! #### dips, picks, ratios -/
def VS (o : O) (n : Nat) : Prop := ∃ (cells : List Int) (sp st : Int), o = Vt cells sp st ∧ cells.length ≤ 60 ∧ 0 ≤ sp ∧ sp ≤ n ∧ 0 ≤ st
theorem dip_v {o : O} {n : Nat} {many : Int} (h : VS o n) (hn : n < 1000000) (h4 : 0 < many) (h5 : many < 2 ^ 62) : ∃ (v : Int) (o' : O), f__law_dip [.lent 0 o, .val (.int many)] = .ok (.val (.int v), [.lent 0 o', .non]) ∧ 0 ≤ v ∧ v < many ∧ VS o' (n + 1) := by
  obtain ⟨cells, sp, st, rfl, h1, h2, h3, h6⟩ := h
  obtain ⟨v, sp', st', e, a, b, c, d, f⟩ := dip_ok (many := many) h1 h2 (by omega) h6 h4 h5
  exact ⟨v, _, e, a, b, cells, sp', st', rfl, h1, c, by omega, f⟩
theorem atI_mem {α : Type} {xs : List α} {v : Int} (h0 : 0 ≤ v) (h1 : v < xs.length) : ∃ x, atI xs v = some x ∧ x ∈ xs := by
  obtain ⟨j, rfl⟩ := Int.eq_ofNat_of_zero_le h0
  have hj : j < xs.length := by omega
  refine ⟨xs[j], ?_, List.getElem_mem hj⟩
  simp only [atI, ixN]
  rw [if_pos (by omega), if_pos h1]
  simp only [Int.toNat_natCast, Option.bind_some, List.getElem?_eq_getElem hj]
theorem pick_v {o : O} {n : Nat} {xs : List D} (h : VS o n) (hn : n < 1000000) (h4 : 0 < xs.length) (h5 : xs.length ≤ 1000) : ∃ (x : D) (o' : O), f__law_pick [.lent 0 o, .val (.lst xs)] = .ok (.val x, [.lent 0 o', .non]) ∧ x ∈ xs ∧ VS o' (n + 1) := by
  obtain ⟨v, o', e, a, b, c⟩ := dip_v (many := (xs.length : Int)) h hn (by omega) (by omega)
  obtain ⟨x, e2, m⟩ := atI_mem a b
  refine ⟨x, o', ?_, m, c⟩
  simp only [f__law_pick, m__law_pick, lendTo, hand, e, e2, bnd_ap, of_ap, seq_ap, asg_ap, ret_ap, retN_ap, sif_ap, expr_ap, par_ap, par3_ap, asgT_ap, nil_ap, brk_ap, cnt_ap, give_val, give_own, give_ali, take_val, take_own, take_ali, ta_nil, ta_cons, pk_val, pk_own, pk_ali, pa_nil', pa_cons', var_ap, lit_ap, op_ap, un_ap, cb_ap, lc_ap, ln_ap, tup_ap, lst_ap, cv_ap, ck_ap, cl_ap, and_ap, or_ap, not_ap, eif_ap, bval_ap, bnot_ap, band_ap, bor_ap, gnam_ap, gtup_ap, gend_ap, gcons_ap, rng_ap, for_ap, loop_nil, setIx_ap, run_ap, M.ret, unpk, asB, back, retS, fit_of, sInt, sBl, fIx, fLen, fAbs, fInt, fList, Mi.isNon, fIsN, fNotN, fCmp, fLt, fLe, fGt, fGe, fAdd, fSub, fNeg, O.frz, Mi.pick, List.getElem?_cons_zero, List.getElem?_cons_succ, List.getElem?_nil, List.set_cons_zero, List.set_cons_succ, List.map_cons, List.map_nil, List.length_cons, List.length_nil, List.replicate_succ, List.replicate_zero, List.cons_append, List.nil_append, Option.map_some, Option.map_none, if_true, if_false, Bool.false_eq_true, Bool.not_true, Bool.not_false, decide_true, decide_false, reduceIte, ne_eq, not_true_eq_false, not_false_eq_true, List.getD_cons_zero, List.getD_cons_succ, Nat.reduceAdd, Nat.reduceSub, Nat.reduceLeDiff, Nat.reduceEqDiff, atI_0, atI_1, atI_2]
def shB : M Fl := sSeq (sIf (bVal (eOp fEq (eVar 2) (eLit (.int 0)))) (sBreak) (sNil)) (sPar 2 3 (lCons (eOp fMod (eCB fInt (lCons (eVar 3) (lNil))) (eVar 2)) (lCons (eVar 2) (lNil))))
theorem shB_0 (p q r : Mi.S) (l : Int) : shB [p, q, .val (.int 0), .val (.int l), r] = .ok (.bk, [p, q, .val (.int 0), .val (.int l), r]) := by
  simp only [shB, eq_int, beq_self_eq_true, bnd_ap, of_ap, seq_ap, asg_ap, ret_ap, retN_ap, sif_ap, expr_ap, par_ap, par3_ap, asgT_ap, nil_ap, brk_ap, cnt_ap, give_val, give_own, give_ali, take_val, take_own, take_ali, ta_nil, ta_cons, pk_val, pk_own, pk_ali, pa_nil', pa_cons', var_ap, lit_ap, op_ap, un_ap, cb_ap, lc_ap, ln_ap, tup_ap, lst_ap, cv_ap, ck_ap, cl_ap, and_ap, or_ap, not_ap, eif_ap, bval_ap, bnot_ap, band_ap, bor_ap, gnam_ap, gtup_ap, gend_ap, gcons_ap, rng_ap, for_ap, loop_nil, setIx_ap, run_ap, M.ret, unpk, asB, back, retS, fit_of, sInt, sBl, fIx, fLen, fAbs, fInt, fList, Mi.isNon, fIsN, fNotN, fCmp, fLt, fLe, fGt, fGe, fAdd, fSub, fNeg, O.frz, Mi.pick, List.getElem?_cons_zero, List.getElem?_cons_succ, List.getElem?_nil, List.set_cons_zero, List.set_cons_succ, List.map_cons, List.map_nil, List.length_cons, List.length_nil, List.replicate_succ, List.replicate_zero, List.cons_append, List.nil_append, Option.map_some, Option.map_none, if_true, if_false, Bool.false_eq_true, Bool.not_true, Bool.not_false, decide_true, decide_false, reduceIte, ne_eq, not_true_eq_false, not_false_eq_true, List.getD_cons_zero, List.getD_cons_succ, Nat.reduceAdd, Nat.reduceSub, Nat.reduceLeDiff, Nat.reduceEqDiff, atI_0, atI_1, atI_2]
theorem shB_1 (p q r : Mi.S) (t l : Nat) (h : 0 < t) : shB [p, q, .val (.int t), .val (.int l), r] = .ok (.nx, [p, q, .val (.int (l % t : Nat)), .val (.int t), r]) := by
  have e : ((t : Int) == 0) = false := by simp; omega
  have m := mod_ok (i := (l : Int)) (j := (t : Int)) (by omega)
  have e2 : (l : Int) % (t : Int) = ((l % t : Nat) : Int) := by omega
  simp only [shB, eq_int, e, m, e2, bnd_ap, of_ap, seq_ap, asg_ap, ret_ap, retN_ap, sif_ap, expr_ap, par_ap, par3_ap, asgT_ap, nil_ap, brk_ap, cnt_ap, give_val, give_own, give_ali, take_val, take_own, take_ali, ta_nil, ta_cons, pk_val, pk_own, pk_ali, pa_nil', pa_cons', var_ap, lit_ap, op_ap, un_ap, cb_ap, lc_ap, ln_ap, tup_ap, lst_ap, cv_ap, ck_ap, cl_ap, and_ap, or_ap, not_ap, eif_ap, bval_ap, bnot_ap, band_ap, bor_ap, gnam_ap, gtup_ap, gend_ap, gcons_ap, rng_ap, for_ap, loop_nil, setIx_ap, run_ap, M.ret, unpk, asB, back, retS, fit_of, sInt, sBl, fIx, fLen, fAbs, fInt, fList, Mi.isNon, fIsN, fNotN, fCmp, fLt, fLe, fGt, fGe, fAdd, fSub, fNeg, O.frz, Mi.pick, List.getElem?_cons_zero, List.getElem?_cons_succ, List.getElem?_nil, List.set_cons_zero, List.set_cons_succ, List.map_cons, List.map_nil, List.length_cons, List.length_nil, List.replicate_succ, List.replicate_zero, List.cons_append, List.nil_append, Option.map_some, Option.map_none, if_true, if_false, Bool.false_eq_true, Bool.not_true, Bool.not_false, decide_true, decide_false, reduceIte, ne_eq, not_true_eq_false, not_false_eq_true, List.getD_cons_zero, List.getD_cons_succ, Nat.reduceAdd, Nat.reduceSub, Nat.reduceLeDiff, Nat.reduceEqDiff, atI_0, atI_1, atI_2]
theorem sh_loop (p q : Mi.S) : ∀ (n : Nat) (ds : List D) (t l : Nat) (r : Mi.S), t < l ∨ t = 0 → t * l < 2 ^ n → n < ds.length → ∃ r', loopM noPin (gNam 4) shB ds [p, q, .val (.int t), .val (.int l), r] = .ok (.nx, [p, q, .val (.int 0), .val (.int (Nat.gcd t l)), r'])
  | n, [], t, l, r, _, _, h => absurd h (by simp)
  | n, d :: ds, t, l, r, hlt, hp, hn => by
    by_cases h0 : t = 0
    · subst h0
      refine ⟨.val d, ?_⟩
      rw [loop_cons]
      simp only [gnam_ap, List.set_cons_succ, List.set_cons_zero]
      rw [show ((0 : Nat) : Int) = 0 from rfl, shB_0, Nat.gcd_zero_left]
    · have tp : 0 < t := by omega
      have lt : t < l := by omega
      have hm := Nat.mod_lt l tp
      have hd := Nat.div_add_mod l t
      have q1 : 1 ≤ l / t := Nat.div_pos (by omega) tp
      have q2 : t * 1 ≤ t * (l / t) := Nat.mul_le_mul_left t q1
      have half : 2 * (l % t) ≤ l := by omega
      have h2 : 2 * (l % t * t) ≤ t * l := by
        have := Nat.mul_le_mul_right t half
        rw [Nat.mul_comm l t, Nat.mul_assoc] at this
        exact this
      have n1 : n ≠ 0 := fun z => by
        subst z
        have := Nat.mul_pos tp (by omega : 0 < l)
        omega
      obtain ⟨k, rfl⟩ := Nat.exists_eq_succ_of_ne_zero n1
      have h3 : l % t * t < 2 ^ k := by
        rw [Nat.pow_succ] at hp
        omega
      obtain ⟨r', e⟩ := sh_loop p q k ds (l % t) t (.val d) (.inl hm) h3 (by simp only [List.length_cons] at hn; omega)
      refine ⟨r', ?_⟩
      rw [loop_cons]
      simp only [gnam_ap, List.set_cons_succ, List.set_cons_zero]
      rw [shB_1 _ _ _ _ _ tp]
      simp only
      rw [e, Nat.gcd_rec t l]
theorem shared_ok {a b : Int} (ha : a.natAbs < 2 ^ 1000) (hb : b.natAbs < 2 ^ 1000) : f__law_shared [.val (.int a), .val (.int b)] = .ok (.val (.int (Nat.gcd a.natAbs b.natAbs)), [.non, .non]) := by
  have rg : ranged1 [.int 9000] = some (D.int (0 + (0 : Nat)) :: (rangeD 0 9000).tail) := rfl
  have ln : ((rangeD 0 9000).tail).length = 8999 := by
    simp only [rangeD, List.length_tail, List.length_map, List.length_range]
    rfl
  have lp : ∃ r', loopM noPin (gNam 4) shB (D.int (0 + (0 : Nat)) :: (rangeD 0 9000).tail) [.val (.int a), .val (.int b), .val (.int a.natAbs), .val (.int b.natAbs), .non] = .ok (.nx, [.val (.int a), .val (.int b), .val (.int 0), .val (.int (Nat.gcd a.natAbs b.natAbs)), r']) := by
    by_cases h0 : a.natAbs = 0
    · rw [h0]
      refine ⟨.val (D.int (0 + (0 : Nat))), ?_⟩
      rw [loop_cons]
      simp only [gnam_ap, List.set_cons_succ, List.set_cons_zero]
      rw [show ((0 : Nat) : Int) = 0 from rfl, shB_0, Nat.gcd_zero_left]
    · have tp : 0 < a.natAbs := by omega
      have hm := Nat.mod_lt b.natAbs tp
      have h3 : b.natAbs % a.natAbs * a.natAbs < 2 ^ 2000 := by
        rw [show (2000 : Nat) = 1000 + 1000 from rfl, Nat.pow_add]
        exact Nat.mul_lt_mul'' (by omega) ha
      obtain ⟨r', e⟩ := sh_loop (.val (.int a)) (.val (.int b)) 2000 (rangeD 0 9000).tail (b.natAbs % a.natAbs) a.natAbs (.val (D.int (0 + (0 : Nat)))) (.inl hm) h3 (by rw [ln]; decide)
      refine ⟨r', ?_⟩
      rw [loop_cons]
      simp only [gnam_ap, List.set_cons_succ, List.set_cons_zero]
      rw [shB_1 _ _ _ _ _ tp]
      simp only
      rw [e, Nat.gcd_rec a.natAbs b.natAbs]
  obtain ⟨r', lp⟩ := lp
  have mb : m__law_shared = sSeq (sPar 2 3 (lCons (eCB fAbs (lCons (eVar 0) (lNil))) (lCons (eCB fAbs (lCons (eVar 1) (lNil))) (lNil)))) (sSeq (sFor (iRng ranged1 (lCons (eLit (.int 9000)) (lNil))) (gNam 4) shB) (sRet (eVar 3))) := rfl
  rw [f__law_shared, mb]
  simp only [rg, abs_eq, lp, bnd_ap, of_ap, seq_ap, asg_ap, ret_ap, retN_ap, sif_ap, expr_ap, par_ap, par3_ap, asgT_ap, nil_ap, brk_ap, cnt_ap, give_val, give_own, give_ali, take_val, take_own, take_ali, ta_nil, ta_cons, pk_val, pk_own, pk_ali, pa_nil', pa_cons', var_ap, lit_ap, op_ap, un_ap, cb_ap, lc_ap, ln_ap, tup_ap, lst_ap, cv_ap, ck_ap, cl_ap, and_ap, or_ap, not_ap, eif_ap, bval_ap, bnot_ap, band_ap, bor_ap, gnam_ap, gtup_ap, gend_ap, gcons_ap, rng_ap, for_ap, loop_nil, setIx_ap, run_ap, M.ret, unpk, asB, back, retS, fit_of, sInt, sBl, fIx, fLen, fAbs, fInt, fList, Mi.isNon, fIsN, fNotN, fCmp, fLt, fLe, fGt, fGe, fAdd, fSub, fNeg, O.frz, Mi.pick, List.getElem?_cons_zero, List.getElem?_cons_succ, List.getElem?_nil, List.set_cons_zero, List.set_cons_succ, List.map_cons, List.map_nil, List.length_cons, List.length_nil, List.replicate_succ, List.replicate_zero, List.cons_append, List.nil_append, Option.map_some, Option.map_none, if_true, if_false, Bool.false_eq_true, Bool.not_true, Bool.not_false, decide_true, decide_false, reduceIte, ne_eq, not_true_eq_false, not_false_eq_true, List.getD_cons_zero, List.getD_cons_succ, Nat.reduceAdd, Nat.reduceSub, Nat.reduceLeDiff, Nat.reduceEqDiff, atI_0, atI_1, atI_2]
def Sm (k : Nat) (x : Rat) : Prop := x.num.natAbs < 2 ^ k ∧ x.den < 2 ^ k
theorem divInt_sm {n b : Int} {k : Nat} (hb : 0 < b) (h1 : n.natAbs < 2 ^ k) (h2 : b.natAbs < 2 ^ k) : Sm k (Rat.divInt n b) := by
  obtain ⟨l1, l2⟩ := low_pos (n := n) hb
  have gp : 0 < Nat.gcd n.natAbs b.natAbs := Nat.gcd_pos_of_pos_right _ (by omega)
  constructor
  · rw [← l1, Int.fdiv_eq_ediv_of_nonneg _ (by omega)]
    have := Int.natAbs_ediv_le_natAbs n (Nat.gcd n.natAbs b.natAbs : Nat)
    omega
  · have e : ((Rat.divInt n b).den : Int) ≤ b := by
      rw [← l2, Int.fdiv_eq_ediv_of_nonneg _ (by omega)]
      exact Int.ediv_le_self _ (by omega)
    omega
theorem ratio_v {o : O} {n : Nat} {most : Int} (h : VS o n) (hn : n < 900000) (h1 : 2 ≤ most) (h2 : most ≤ 2 ^ 30) : ∃ (x : Rat) (o' : O), f__law_ratio [.lent 0 o, .val (.int most)] = .ok (.val (pr x), [.lent 0 o', .non]) ∧ Sm 30 x ∧ VS o' (n + 3) := by
  have w := mul_l (i := 2) (j := most) (by decide)
  obtain ⟨v, o1, e1, a1, b1, s1⟩ := dip_v (many := 2 * most - 1) h (by omega) (by omega) (by omega)
  obtain ⟨x, o2, e2, m2, s2⟩ := pick_v (xs := [.int 1, .int (most - 1), .int (most - 1)]) s1 (by omega) (by simp) (by simp)
  have hx : ∃ k : Int, x = .int k ∧ 0 < k ∧ k ≤ most - 1 := by
    simp only [List.mem_cons, List.not_mem_nil, or_false] at m2
    rcases m2 with rfl | rfl | rfl
    · exact ⟨1, rfl, by omega, by omega⟩
    · exact ⟨_, rfl, by omega, by omega⟩
    · exact ⟨_, rfl, by omega, by omega⟩
  obtain ⟨k, rfl, k1, k2⟩ := hx
  obtain ⟨u, o3, e3, a3, b3, s3⟩ := dip_v (many := k) s2 (by omega) k1 (by omega)
  have n1 : (v - most + 1).natAbs < 2 ^ 30 := by omega
  have n2 : (1 + u).natAbs < 2 ^ 30 := by omega
  have n0 : 0 < 1 + u := by omega
  have t : (2 : Nat) ^ 30 ≤ 2 ^ 1000 := by decide
  have sh := shared_ok (a := v - most + 1) (b := 1 + u) (by omega) (by omega)
  obtain ⟨g1, g2⟩ := gcd_small (n := v - most + 1) (b := 1 + u) (by omega) (by omega)
  have d1 := fun i => div_ok (i := i) (j := ((Nat.gcd (v - most + 1).natAbs (1 + u).natAbs : Nat) : Int)) (by omega) (by omega)
  obtain ⟨l1, l2⟩ := low_pos (n := v - most + 1) n0
  refine ⟨Rat.divInt (v - most + 1) (1 + u), o3, ?_, divInt_sm n0 n1 n2, s3⟩
  simp only [f__law_ratio, m__law_ratio, lendTo, hand, w, e1, e2, e3, sh, d1, l1, l2, bnd_ap, of_ap, seq_ap, asg_ap, ret_ap, retN_ap, sif_ap, expr_ap, par_ap, par3_ap, asgT_ap, nil_ap, brk_ap, cnt_ap, give_val, give_own, give_ali, take_val, take_own, take_ali, ta_nil, ta_cons, pk_val, pk_own, pk_ali, pa_nil', pa_cons', var_ap, lit_ap, op_ap, un_ap, cb_ap, lc_ap, ln_ap, tup_ap, lst_ap, cv_ap, ck_ap, cl_ap, and_ap, or_ap, not_ap, eif_ap, bval_ap, bnot_ap, band_ap, bor_ap, gnam_ap, gtup_ap, gend_ap, gcons_ap, rng_ap, for_ap, loop_nil, setIx_ap, run_ap, M.ret, unpk, asB, back, retS, fit_of, sInt, sBl, fIx, fLen, fAbs, fInt, fList, Mi.isNon, fIsN, fNotN, fCmp, fLt, fLe, fGt, fGe, fAdd, fSub, fNeg, O.frz, Mi.pick, List.getElem?_cons_zero, List.getElem?_cons_succ, List.getElem?_nil, List.set_cons_zero, List.set_cons_succ, List.map_cons, List.map_nil, List.length_cons, List.length_nil, List.replicate_succ, List.replicate_zero, List.cons_append, List.nil_append, Option.map_some, Option.map_none, if_true, if_false, Bool.false_eq_true, Bool.not_true, Bool.not_false, decide_true, decide_false, reduceIte, ne_eq, not_true_eq_false, not_false_eq_true, List.getD_cons_zero, List.getD_cons_succ, Nat.reduceAdd, Nat.reduceSub, Nat.reduceLeDiff, Nat.reduceEqDiff, atI_0, atI_1, atI_2]
  rfl
end K04

namespace K04
open PySem PySem.Spec PyProof.Rows L2 Mi
/-! #### by own crosswise products -/
theorem divInt_sm' {n b : Int} {k : Nat} (hb : b ≠ 0) (h1 : n.natAbs < 2 ^ k) (h2 : b.natAbs < 2 ^ k) : Sm k (Rat.divInt n b) := by
  by_cases hp : 0 < b
  · exact divInt_sm hp h1 h2
  · have e : Rat.divInt n b = Rat.divInt (-n) (-b) := by
      rw [Rat.divInt_eq_divInt_iff hb (by omega), Int.mul_neg, Int.neg_mul]
    rw [e]
    exact divInt_sm (by omega) (by omega) (by omega)
theorem cross {z : Rat} {n m : Int} (hm : m ≠ 0) (h : z = Rat.divInt n m) : z.num * m = n * z.den := by
  have h2 : Rat.divInt z.num z.den = Rat.divInt n m := by rw [Rat.num_divInt_den]; exact h
  exact (Rat.divInt_eq_divInt_iff (by have := z.den_nz; omega) hm).mp h2
section
variable {x y : Rat} {k : Nat} (hx : Sm k x) (hy : Sm k y)
theorem add_eq : x + y = Rat.divInt (x.num * y.den + y.num * x.den) (x.den * y.den) := by
  rw [← Rat.divInt_add_divInt _ _ (by have := x.den_nz; omega) (by have := y.den_nz; omega), Rat.num_divInt_den, Rat.num_divInt_den]
theorem sub_eq : x - y = Rat.divInt (x.num * y.den - y.num * x.den) (x.den * y.den) := by
  rw [← Rat.divInt_sub_divInt _ _ (by have := x.den_nz; omega) (by have := y.den_nz; omega), Rat.num_divInt_den, Rat.num_divInt_den]
theorem mul_eq : x * y = Rat.divInt (x.num * y.num) (x.den * y.den) := by
  rw [← Rat.divInt_mul_divInt, Rat.num_divInt_den, Rat.num_divInt_den]
theorem div_eq : x / y = Rat.divInt (x.num * y.den) (x.den * y.num) := by
  rw [← Rat.divInt_mul_divInt, Rat.num_divInt_den, ← Rat.inv_divInt, Rat.num_divInt_den, Rat.div_def]
include hx hy
theorem prods : (x.num * y.den).natAbs < 2 ^ (k + k) ∧ (y.num * x.den).natAbs < 2 ^ (k + k) ∧ ((x.den : Int) * y.den).natAbs < 2 ^ (k + k) ∧ (x.num * y.num).natAbs < 2 ^ (k + k) ∧ ((x.den : Int) * y.num).natAbs < 2 ^ (k + k) := by
  have d1 : (x.den : Int).natAbs < 2 ^ k := by rw [den_abs]; exact hx.2
  have d2 : (y.den : Int).natAbs < 2 ^ k := by rw [den_abs]; exact hy.2
  exact ⟨ab_mul hx.1 d2, ab_mul hy.1 d1, ab_mul d1 d2, ab_mul hx.1 hy.1, ab_mul d1 hy.1⟩
theorem sm_all : Sm (k + k + 1) (x + y) ∧ Sm (k + k + 1) (x - y) ∧ Sm (k + k + 1) (x * y) ∧ (y.num ≠ 0 → Sm (k + k + 1) (x / y)) := by
  obtain ⟨p1, p2, p3, p4, p5⟩ := prods hx hy
  have h1 := x.den_nz
  have h2 := y.den_nz
  have n1 : ((x.den : Int) * y.den) ≠ 0 := Int.mul_ne_zero (by omega) (by omega)
  have e : (2 : Nat) ^ (k + k + 1) = 2 * 2 ^ (k + k) := by rw [Nat.pow_succ]; omega
  refine ⟨?_, ?_, ?_, fun h0 => ?_⟩
  · rw [add_eq]; exact divInt_sm' n1 (by omega) (by omega)
  · rw [sub_eq]; exact divInt_sm' n1 (by omega) (by omega)
  · rw [mul_eq]; exact divInt_sm' n1 (by omega) (by omega)
  · rw [div_eq]; exact divInt_sm' (Int.mul_ne_zero (by omega) h0) (by omega) (by omega)
end
theorem Sm.sz {k : Nat} {x : Rat} (h : Sm k x) (hk : k ≤ 490) : Sz x := by
  have := Nat.pow_le_pow_right (show 0 < 2 by decide) hk
  exact ⟨Nat.lt_of_lt_of_le h.1 this, Nat.lt_of_lt_of_le h.2 this⟩
theorem Sm.up {j k : Nat} {x : Rat} (h : Sm j x) (hk : j ≤ k) : Sm k x := by
  have := Nat.pow_le_pow_right (show 0 < 2 by decide) hk
  exact ⟨Nat.lt_of_lt_of_le h.1 this, Nat.lt_of_lt_of_le h.2 this⟩
theorem isi_int (i : Int) : fIsi isT [.int i, .ty "int"] = some (.val (.bl true)) := rfl
theorem isi_ib (i : Int) : fIsi isT [.int i, .ty "bool"] = some (.val (.bl false)) := rfl
theorem isi_tup (l : List D) : fIsi isT [.tup l, .ty "tuple"] = some (.val (.bl true)) := rfl
theorem ne_nn : fNe (.lst []) (.lst []) = some (.val (.bl false)) := ne_nil []
theorem law_is_ok {z : Rat} {n m : Int} (hz : Sz z) (hm : m.natAbs < 2 ^ 1000) (hn : n.natAbs < 2 ^ 1000) (h : z.num * m = n * z.den) : f__law_is [.val (.tup [.int z.num, .int z.den]), .val (.int n), .val (.int m)] = .ok (.val (.bl true), [.non, .non, .non]) := by
  obtain ⟨t1, _⟩ := two_le
  have z1 : z.num.natAbs < 2 ^ 1000 := Nat.lt_of_lt_of_le hz.1 t1
  have z2 : (z.den : Int).natAbs < 2 ^ 1000 := by rw [den_abs]; exact Nat.lt_of_lt_of_le hz.2 t1
  have m1 := mul_ok z1 hm
  have m2 := mul_ok hn z2
  have sh := shared_ok z1 z2
  have gc : Nat.gcd z.num.natAbs (z.den : Int).natAbs = 1 := by rw [den_abs]; exact z.reduced
  rw [gc] at sh
  have dp : (0 : Int) < z.den := by have := z.den_nz; omega
  have sq : iSeq (eVar 0) [Mi.S.val (.tup [.int z.num, .int z.den]), .val (.int n), .val (.int m), .non] = .ok (([.int z.num, .int z.den], noPin), [Mi.S.val (.tup [.int z.num, .int z.den]), .val (.int n), .val (.int m), .non]) := by
    rw [seqi_var (d := .tup [.int z.num, .int z.den]) _ _ rfl]; rfl
  have ec : eComp [3] (iSeq (eVar 0)) (gNam 3) (bOr (bNot (bVal (eCB (fIsi isT) (lCons (eVar 3) (lCons (eLit (.ty "int")) (lNil)))))) (bVal (eCB (fIsi isT) (lCons (eVar 3) (lCons (eLit (.ty "bool")) (lNil)))))) (eVar 3) [Mi.S.val (.tup [.int z.num, .int z.den]), .val (.int n), .val (.int m), .non] = .ok (.own (.lst []), [Mi.S.val (.tup [.int z.num, .int z.den]), .val (.int n), .val (.int m), .non]) := by
    rw [ecomp_ap _ _ _ _ _ _ sq rfl]
    show (match compM [3] noPin (gNam 3) _ (eVar 3) [.int z.num, .int z.den] [] [Mi.S.val (.tup [.int z.num, .int z.den]), .val (.int n), .val (.int m), .non] with
      | .ok (ds, τ2) => if realOk [Mi.S.val (.tup [.int z.num, .int z.den]), .val (.int n), .val (.int m), .non] τ2 = true then R.ok (Mi.S.own (.lst ds), restT [3] [Mi.S.val (.tup [.int z.num, .int z.den]), .val (.int n), .val (.int m), .non] τ2) else .stuck
      | _ => .stuck) = _
    rw [comp_cons]
    simp only [isi_int, isi_ib, bnd_ap, of_ap, seq_ap, asg_ap, ret_ap, retN_ap, sif_ap, expr_ap, par_ap, par3_ap, asgT_ap, nil_ap, brk_ap, cnt_ap, give_val, give_own, give_ali, take_val, take_own, take_ali, ta_nil, ta_cons, pk_val, pk_own, pk_ali, pa_nil', pa_cons', var_ap, lit_ap, op_ap, un_ap, cb_ap, lc_ap, ln_ap, tup_ap, lst_ap, cv_ap, ck_ap, cl_ap, and_ap, or_ap, not_ap, eif_ap, bval_ap, bnot_ap, band_ap, bor_ap, gnam_ap, gtup_ap, gend_ap, gcons_ap, rng_ap, for_ap, loop_nil, setIx_ap, run_ap, M.ret, unpk, asB, back, retS, fit_of, sInt, sBl, fIx, fLen, fAbs, fInt, fList, Mi.isNon, fIsN, fNotN, fCmp, fLt, fLe, fGt, fGe, fAdd, fSub, fNeg, O.frz, Mi.pick, List.getElem?_cons_zero, List.getElem?_cons_succ, List.getElem?_nil, List.set_cons_zero, List.set_cons_succ, List.map_cons, List.map_nil, List.length_cons, List.length_nil, List.replicate_succ, List.replicate_zero, List.cons_append, List.nil_append, Option.map_some, Option.map_none, if_true, if_false, Bool.false_eq_true, Bool.not_true, Bool.not_false, decide_true, decide_false, reduceIte, ne_eq, not_true_eq_false, not_false_eq_true, List.getD_cons_zero, List.getD_cons_succ, Nat.reduceAdd, Nat.reduceSub, Nat.reduceLeDiff, Nat.reduceEqDiff, atI_0, atI_1, atI_2]
    rw [comp_cons]
    simp only [isi_int, isi_ib, wipeT, List.foldl, bnd_ap, of_ap, seq_ap, asg_ap, ret_ap, retN_ap, sif_ap, expr_ap, par_ap, par3_ap, asgT_ap, nil_ap, brk_ap, cnt_ap, give_val, give_own, give_ali, take_val, take_own, take_ali, ta_nil, ta_cons, pk_val, pk_own, pk_ali, pa_nil', pa_cons', var_ap, lit_ap, op_ap, un_ap, cb_ap, lc_ap, ln_ap, tup_ap, lst_ap, cv_ap, ck_ap, cl_ap, and_ap, or_ap, not_ap, eif_ap, bval_ap, bnot_ap, band_ap, bor_ap, gnam_ap, gtup_ap, gend_ap, gcons_ap, rng_ap, for_ap, loop_nil, setIx_ap, run_ap, M.ret, unpk, asB, back, retS, fit_of, sInt, sBl, fIx, fLen, fAbs, fInt, fList, Mi.isNon, fIsN, fNotN, fCmp, fLt, fLe, fGt, fGe, fAdd, fSub, fNeg, O.frz, Mi.pick, List.getElem?_cons_zero, List.getElem?_cons_succ, List.getElem?_nil, List.set_cons_zero, List.set_cons_succ, List.map_cons, List.map_nil, List.length_cons, List.length_nil, List.replicate_succ, List.replicate_zero, List.cons_append, List.nil_append, Option.map_some, Option.map_none, if_true, if_false, Bool.false_eq_true, Bool.not_true, Bool.not_false, decide_true, decide_false, reduceIte, ne_eq, not_true_eq_false, not_false_eq_true, List.getD_cons_zero, List.getD_cons_succ, Nat.reduceAdd, Nat.reduceSub, Nat.reduceLeDiff, Nat.reduceEqDiff, atI_0, atI_1, atI_2]
    rfl
  simp only [f__law_is, m__law_is, ec, isi_tup, ne_nn, ne_int, eq_int, sh, m1, m2, h, dp, beq_self_eq_true, show (((0 + 1 + 1 : Nat) : Int) == 2) = true from rfl, show (((1 : Nat) : Int) == 1) = true from rfl, bnd_ap, of_ap, seq_ap, asg_ap, ret_ap, retN_ap, sif_ap, expr_ap, par_ap, par3_ap, asgT_ap, nil_ap, brk_ap, cnt_ap, give_val, give_own, give_ali, take_val, take_own, take_ali, ta_nil, ta_cons, pk_val, pk_own, pk_ali, pa_nil', pa_cons', var_ap, lit_ap, op_ap, un_ap, cb_ap, lc_ap, ln_ap, tup_ap, lst_ap, cv_ap, ck_ap, cl_ap, and_ap, or_ap, not_ap, eif_ap, bval_ap, bnot_ap, band_ap, bor_ap, gnam_ap, gtup_ap, gend_ap, gcons_ap, rng_ap, for_ap, loop_nil, setIx_ap, run_ap, M.ret, unpk, asB, back, retS, fit_of, sInt, sBl, fIx, fLen, fAbs, fInt, fList, Mi.isNon, fIsN, fNotN, fCmp, fLt, fLe, fGt, fGe, fAdd, fSub, fNeg, O.frz, Mi.pick, List.getElem?_cons_zero, List.getElem?_cons_succ, List.getElem?_nil, List.set_cons_zero, List.set_cons_succ, List.map_cons, List.map_nil, List.length_cons, List.length_nil, List.replicate_succ, List.replicate_zero, List.cons_append, List.nil_append, Option.map_some, Option.map_none, if_true, if_false, Bool.false_eq_true, Bool.not_true, Bool.not_false, decide_true, decide_false, reduceIte, ne_eq, not_true_eq_false, not_false_eq_true, List.getD_cons_zero, List.getD_cons_succ, Nat.reduceAdd, Nat.reduceSub, Nat.reduceLeDiff, Nat.reduceEqDiff, atI_0, atI_1, atI_2]
theorem num0 {y : Rat} (h : y.num = 0) : y = 0 := Rat.num_eq_zero.mp h
theorem sums_ok {x y : Rat} (hx : Sm 31 x) (hy : Sm 31 y) : f__law_sums_right [.val (pr x), .val (pr y)] = .ok (.val (.bl true), [.non, .non]) := by
  obtain ⟨s1, s2, s3, s4⟩ := sm_all hx hy
  obtain ⟨p1, p2, p3, p4, p5⟩ := prods hx hy
  have zx := hx.sz (by decide)
  have zy := hy.sz (by decide)
  have z1 := s1.sz (by decide)
  have z2 := s2.sz (by decide)
  have z3 := s3.sz (by decide)
  have px : IsP x (.tup [.int x.num, .int x.den]) := .inl rfl
  have py : IsP y (.tup [.int y.num, .int y.den]) := .inl rfl
  have lx : IsP x (.lst [.int x.num, .int x.den]) := .inr rfl
  have ly : IsP y (.lst [.int y.num, .int y.den]) := .inr rfl
  have P1 : IsP (x + y) (.tup [.int (x + y).num, .int (x + y).den]) := .inl rfl
  have P2 : IsP (x - y) (.tup [.int (x - y).num, .int (x - y).den]) := .inl rfl
  have P3 : IsP (x * y) (.tup [.int (x * y).num, .int (x * y).den]) := .inl rfl
  obtain ⟨m1, m2, m3, m4, m5⟩ := muls px py zx zy
  have a1 := plus_ok px ly zx zy
  have a2 := minus_ok lx py zx zy
  have a3 := times_ok px py zx zy
  have a4 := plus_ok py px zy zx
  have a5 := minus_ok P1 py z1 zy
  have a6 := plus_ok P2 py z2 zy
  have a7 := times_ok py px zy zx
  have a8 := minus_ok py px zy zx
  have a9 := minus_ok px px zx zx
  have h1 := x.den_nz
  have h2 := y.den_nz
  have n1 : ((x.den : Int) * y.den) ≠ 0 := Int.mul_ne_zero (by omega) (by omega)
  have i1 := law_is_ok z1 (n := x.num * y.den + y.num * x.den) (m := x.den * y.den) (by omega) (by omega) (cross n1 add_eq)
  have i2 := law_is_ok z2 (n := x.num * y.den - y.num * x.den) (m := x.den * y.den) (by omega) (by omega) (cross n1 sub_eq)
  have i3 := law_is_ok z3 (n := x.num * y.num) (m := x.den * y.den) (by omega) (by omega) (cross n1 mul_eq)
  have r1 : y + x = x + y := Rat.add_comm _ _
  have r2 : x + y - y = x := Rat.add_sub_cancel
  have r3 : x - y + y = x := Rat.sub_add_cancel
  have r4 : y * x = x * y := Rat.mul_comm _ _
  have r5 : (y - x).num = -(x - y).num ∧ (y - x).den = (x - y).den := by
    have : y - x = -(x - y) := by rw [Rat.neg_sub]
    rw [this]
    exact ⟨rfl, rfl⟩
  have r6 : (x - x).num = 0 ∧ (x - x).den = 1 := by
    rw [Rat.sub_self]
    exact ⟨rfl, rfl⟩
  rw [r1] at a4
  rw [r2] at a5
  rw [r3] at a6
  rw [r4] at a7
  simp only [pr] at a1 a2 a3 a4 a5 a6 a7 a8 a9 ⊢
  rw [r5.1, r5.2] at a8
  rw [r6.1, r6.2] at a9
  have c1 : ((1 : Nat) : Int) = 1 := rfl
  by_cases h0 : y.num = 0
  · have y0 := num0 h0
    have r7 : (x * y).num = 0 ∧ (x * y).den = 1 := by
      rw [y0, Rat.mul_zero]
      exact ⟨rfl, rfl⟩
    have q0 : (y.num == 0) = true := by simpa using h0
    simp only [r7.1, r7.2, c1] at a3 a7 i3 a9
    rw [f__law_sums_right, run_ap]
    simp only [m__law_sums_right, m1, m2, m3, m4, m5, a1, a2, a3, a4, a5, a6, a7, a8, a9, i1, i2, i3, eq_int, ne_pair, eq_pair, q0, beq_self_eq_true, Bool.and_self, c1, bnd_ap, of_ap, seq_ap, asg_ap, ret_ap, retN_ap, sif_ap, expr_ap, par_ap, par3_ap, asgT_ap, nil_ap, brk_ap, cnt_ap, give_val, give_own, give_ali, take_val, take_own, take_ali, ta_nil, ta_cons, pk_val, pk_own, pk_ali, pa_nil', pa_cons', var_ap, lit_ap, op_ap, un_ap, cb_ap, lc_ap, ln_ap, tup_ap, lst_ap, cv_ap, ck_ap, cl_ap, and_ap, or_ap, not_ap, eif_ap, bval_ap, bnot_ap, band_ap, bor_ap, gnam_ap, gtup_ap, gend_ap, gcons_ap, rng_ap, for_ap, loop_nil, setIx_ap, run_ap, M.ret, unpk, asB, back, retS, fit_of, sInt, sBl, fIx, fLen, fAbs, fInt, fList, Mi.isNon, fIsN, fNotN, fCmp, fLt, fLe, fGt, fGe, fAdd, fSub, fNeg, O.frz, Mi.pick, List.getElem?_cons_zero, List.getElem?_cons_succ, List.getElem?_nil, List.set_cons_zero, List.set_cons_succ, List.map_cons, List.map_nil, List.length_cons, List.length_nil, List.replicate_succ, List.replicate_zero, List.cons_append, List.nil_append, Option.map_some, Option.map_none, if_true, if_false, Bool.false_eq_true, Bool.not_true, Bool.not_false, decide_true, decide_false, reduceIte, ne_eq, not_true_eq_false, not_false_eq_true, List.getD_cons_zero, List.getD_cons_succ, Nat.reduceAdd, Nat.reduceSub, Nat.reduceLeDiff, Nat.reduceEqDiff, atI_0, atI_1, atI_2]
  · have q0 : (y.num == 0) = false := by simpa using h0
    have yn : y ≠ 0 := fun z => h0 (by rw [z]; rfl)
    have s4 := s4 h0
    have z4 := s4.sz (by decide)
    have P4 : IsP (x / y) (.tup [.int (x / y).num, .int (x / y).den]) := .inl rfl
    have b1 := over_ok px py zx zy h0
    have b2 := times_ok P4 py z4 zy
    have b3 := over_ok P3 py z3 zy h0
    have b4 := over_ok py py zy zy h0
    have r8 : x / y * y = x := Rat.div_mul_cancel yn
    have r9 : x * y / y = x := Rat.mul_div_cancel yn
    have r10 : (y / y).num = 1 ∧ (y / y).den = 1 := by
      have : y / y = 1 := by rw [Rat.div_def, Rat.mul_inv_cancel _ yn]
      rw [this]
      exact ⟨rfl, rfl⟩
    have i4 := law_is_ok z4 (n := x.num * y.den) (m := x.den * y.num) (by omega) (by omega) (cross (Int.mul_ne_zero (by omega) h0) div_eq)
    rw [r8] at b2
    rw [r9] at b3
    simp only [pr] at b1 b2 b3 b4
    rw [r10.1, r10.2, c1] at b4
    simp only [c1] at a9
    rw [f__law_sums_right, run_ap]
    simp only [m__law_sums_right, m1, m2, m3, m4, m5, a1, a2, a3, a4, a5, a6, a7, a8, a9, b1, b2, b3, b4, i1, i2, i3, i4, eq_int, ne_pair, eq_pair, q0, beq_self_eq_true, Bool.and_self, c1, bnd_ap, of_ap, seq_ap, asg_ap, ret_ap, retN_ap, sif_ap, expr_ap, par_ap, par3_ap, asgT_ap, nil_ap, brk_ap, cnt_ap, give_val, give_own, give_ali, take_val, take_own, take_ali, ta_nil, ta_cons, pk_val, pk_own, pk_ali, pa_nil', pa_cons', var_ap, lit_ap, op_ap, un_ap, cb_ap, lc_ap, ln_ap, tup_ap, lst_ap, cv_ap, ck_ap, cl_ap, and_ap, or_ap, not_ap, eif_ap, bval_ap, bnot_ap, band_ap, bor_ap, gnam_ap, gtup_ap, gend_ap, gcons_ap, rng_ap, for_ap, loop_nil, setIx_ap, run_ap, M.ret, unpk, asB, back, retS, fit_of, sInt, sBl, fIx, fLen, fAbs, fInt, fList, Mi.isNon, fIsN, fNotN, fCmp, fLt, fLe, fGt, fGe, fAdd, fSub, fNeg, O.frz, Mi.pick, List.getElem?_cons_zero, List.getElem?_cons_succ, List.getElem?_nil, List.set_cons_zero, List.set_cons_succ, List.map_cons, List.map_nil, List.length_cons, List.length_nil, List.replicate_succ, List.replicate_zero, List.cons_append, List.nil_append, Option.map_some, Option.map_none, if_true, if_false, Bool.false_eq_true, Bool.not_true, Bool.not_false, decide_true, decide_false, reduceIte, ne_eq, not_true_eq_false, not_false_eq_true, List.getD_cons_zero, List.getD_cons_succ, Nat.reduceAdd, Nat.reduceSub, Nat.reduceLeDiff, Nat.reduceEqDiff, atI_0, atI_1, atI_2]
end K04

namespace K04
open PySem PySem.Spec PyProof.Rows L2 Mi
/-! #### wide, in order -/
theorem cmp_eq (a b : Int) : ((if decide (b < a) = true then (1 : Int) else 0) - (if decide (a < b) = true then 1 else 0)) = cmpI a b := rfl
theorem cmp_swap (a b : Int) : cmpI b a = -cmpI a b := by unfold cmpI; omega
theorem cmp_neg (a b : Int) : cmpI (-a) (-b) = -cmpI a b := by
  unfold cmpI
  have e1 : decide (-b < -a) = decide (a < b) := by
    by_cases h : a < b
    · rw [decide_eq_true h, decide_eq_true (by omega)]
    · rw [decide_eq_false h, decide_eq_false (by omega)]
  have e2 : decide (-a < -b) = decide (b < a) := by
    by_cases h : b < a
    · rw [decide_eq_true h, decide_eq_true (by omega)]
    · rw [decide_eq_false h, decide_eq_false (by omega)]
  rw [e1, e2]
  omega
theorem cmp_self (a : Int) : cmpI a a = 0 := by unfold cmpI; simp
theorem wide_v {o : O} {n : Nat} (h : VS o n) (hn : n < 800000) : ∃ o', f__law_wide_right [.lent 0 o] = .ok (.val (.bl true), [.lent 0 o']) ∧ VS o' (n + 6) := by
  have p9 := pow_ok (i := 10) (j := 9) (by decide) (by decide) (by decide)
  obtain ⟨x, o1, e1, hx, v1⟩ := ratio_v (most := 10 ^ (9 : Int).toNat) h (by omega) (by decide) (by decide)
  obtain ⟨y, o2, e2, hy, v2⟩ := ratio_v (most := 10 ^ (9 : Int).toNat) v1 (by omega) (by decide) (by decide)
  obtain ⟨s1, s2, s3, s4⟩ := sm_all hx hy
  obtain ⟨p1, p2, p3, p4, p5⟩ := prods hx hy
  have zx := hx.sz (by decide)
  have zy := hy.sz (by decide)
  have z1 := s1.sz (by decide)
  have z2 := s2.sz (by decide)
  have z3 := s3.sz (by decide)
  have px : IsP x (.tup [.int x.num, .int x.den]) := .inl rfl
  have py : IsP y (.tup [.int y.num, .int y.den]) := .inl rfl
  obtain ⟨m1, m2, m3, m4, m5⟩ := muls px py zx zy
  have a1 := plus_ok px py zx zy
  have a2 := minus_ok px py zx zy
  have a3 := times_ok px py zx zy
  have a4 := compared_ok px py zx zy
  have h1 := x.den_nz
  have h2 := y.den_nz
  have n1 : ((x.den : Int) * y.den) ≠ 0 := Int.mul_ne_zero (by omega) (by omega)
  have i1 := law_is_ok z1 (n := x.num * y.den + y.num * x.den) (m := x.den * y.den) (by omega) (by omega) (cross n1 add_eq)
  have i2 := law_is_ok z2 (n := x.num * y.den - y.num * x.den) (m := x.den * y.den) (by omega) (by omega) (cross n1 sub_eq)
  have i3 := law_is_ok z3 (n := x.num * y.num) (m := x.den * y.den) (by omega) (by omega) (cross n1 mul_eq)
  simp only [pr] at e1 e2 a1 a2 a3
  refine ⟨o2, ?_, v2⟩
  by_cases h0 : y.num = 0
  · have q0 : (y.num == 0) = true := by simpa using h0
    rw [f__law_wide_right, run_ap]
    simp only [m__law_wide_right, lendTo, hand, p9, e1, e2, m1, m2, m3, m4, m5, a1, a2, a3, a4, i1, i2, i3, eq_int, ne_int, q0, beq_self_eq_true, cmp_eq, bnd_ap, of_ap, seq_ap, asg_ap, ret_ap, retN_ap, sif_ap, expr_ap, par_ap, par3_ap, asgT_ap, nil_ap, brk_ap, cnt_ap, give_val, give_own, give_ali, take_val, take_own, take_ali, ta_nil, ta_cons, pk_val, pk_own, pk_ali, pa_nil', pa_cons', var_ap, lit_ap, op_ap, un_ap, cb_ap, lc_ap, ln_ap, tup_ap, lst_ap, cv_ap, ck_ap, cl_ap, and_ap, or_ap, not_ap, eif_ap, bval_ap, bnot_ap, band_ap, bor_ap, gnam_ap, gtup_ap, gend_ap, gcons_ap, rng_ap, for_ap, loop_nil, setIx_ap, run_ap, M.ret, unpk, asB, back, retS, fit_of, sInt, sBl, fIx, fLen, fAbs, fInt, fList, Mi.isNon, fIsN, fNotN, fCmp, fLt, fLe, fGt, fGe, fAdd, fSub, fNeg, O.frz, Mi.pick, List.getElem?_cons_zero, List.getElem?_cons_succ, List.getElem?_nil, List.set_cons_zero, List.set_cons_succ, List.map_cons, List.map_nil, List.length_cons, List.length_nil, List.replicate_succ, List.replicate_zero, List.cons_append, List.nil_append, Option.map_some, Option.map_none, if_true, if_false, Bool.false_eq_true, Bool.not_true, Bool.not_false, decide_true, decide_false, reduceIte, ne_eq, not_true_eq_false, not_false_eq_true, List.getD_cons_zero, List.getD_cons_succ, Nat.reduceAdd, Nat.reduceSub, Nat.reduceLeDiff, Nat.reduceEqDiff, atI_0, atI_1, atI_2]
  · have q0 : (y.num == 0) = false := by simpa using h0
    have s4 := s4 h0
    have z4 := s4.sz (by decide)
    have b1 := over_ok px py zx zy h0
    have i4 := law_is_ok z4 (n := x.num * y.den) (m := x.den * y.num) (by omega) (by omega) (cross (Int.mul_ne_zero (by omega) h0) div_eq)
    simp only [pr] at b1
    rw [f__law_wide_right, run_ap]
    simp only [m__law_wide_right, lendTo, hand, p9, e1, e2, m1, m2, m3, m4, m5, a1, a2, a3, a4, b1, i1, i2, i3, i4, eq_int, ne_int, q0, beq_self_eq_true, cmp_eq, bnd_ap, of_ap, seq_ap, asg_ap, ret_ap, retN_ap, sif_ap, expr_ap, par_ap, par3_ap, asgT_ap, nil_ap, brk_ap, cnt_ap, give_val, give_own, give_ali, take_val, take_own, take_ali, ta_nil, ta_cons, pk_val, pk_own, pk_ali, pa_nil', pa_cons', var_ap, lit_ap, op_ap, un_ap, cb_ap, lc_ap, ln_ap, tup_ap, lst_ap, cv_ap, ck_ap, cl_ap, and_ap, or_ap, not_ap, eif_ap, bval_ap, bnot_ap, band_ap, bor_ap, gnam_ap, gtup_ap, gend_ap, gcons_ap, rng_ap, for_ap, loop_nil, setIx_ap, run_ap, M.ret, unpk, asB, back, retS, fit_of, sInt, sBl, fIx, fLen, fAbs, fInt, fList, Mi.isNon, fIsN, fNotN, fCmp, fLt, fLe, fGt, fGe, fAdd, fSub, fNeg, O.frz, Mi.pick, List.getElem?_cons_zero, List.getElem?_cons_succ, List.getElem?_nil, List.set_cons_zero, List.set_cons_succ, List.map_cons, List.map_nil, List.length_cons, List.length_nil, List.replicate_succ, List.replicate_zero, List.cons_append, List.nil_append, Option.map_some, Option.map_none, if_true, if_false, Bool.false_eq_true, Bool.not_true, Bool.not_false, decide_true, decide_false, reduceIte, ne_eq, not_true_eq_false, not_false_eq_true, List.getD_cons_zero, List.getD_cons_succ, Nat.reduceAdd, Nat.reduceSub, Nat.reduceLeDiff, Nat.reduceEqDiff, atI_0, atI_1, atI_2]
theorem order_ok {x y : Rat} (hx : Sm 31 x) (hy : Sm 31 y) : f__law_order_right [.val (pr x), .val (pr y)] = .ok (.val (.bl true), [.non, .non]) := by
  have zx := hx.sz (by decide)
  have zy := hy.sz (by decide)
  have nx : Sz (-x) := by
    refine ⟨?_, zx.2⟩
    have : (-x).num = -x.num := rfl
    rw [this, Int.natAbs_neg]
    exact zx.1
  have ny : Sz (-y) := by
    refine ⟨?_, zy.2⟩
    have : (-y).num = -y.num := rfl
    rw [this, Int.natAbs_neg]
    exact zy.1
  have px : IsP x (.tup [.int x.num, .int x.den]) := .inl rfl
  have py : IsP y (.tup [.int y.num, .int y.den]) := .inl rfl
  have lx : IsP x (.lst [.int x.num, .int x.den]) := .inr rfl
  have qx : IsP (-x) (.tup [.int (-x.num), .int x.den]) := .inl rfl
  have qy : IsP (-y) (.tup [.int (-y.num), .int y.den]) := .inl rfl
  obtain ⟨m1, m2, m3, m4, m5⟩ := muls px py zx zy
  have a1 := compared_ok px py zx zy
  have a2 := compared_ok py lx zy zx
  have a3 := compared_ok px px zx zx
  have a4 := compared_ok qx qy nx ny
  rw [cmp_swap] at a2
  rw [cmp_self] at a3
  have e1 : (-x).num = -x.num := rfl
  have e2 : (-y).num = -y.num := rfl
  have e3 : (-x).den = x.den := rfl
  have e4 : (-y).den = y.den := rfl
  rw [e1, e2, e3, e4, Int.neg_mul, Int.neg_mul, cmp_neg] at a4
  rw [f__law_order_right, run_ap]
  simp only [pr, m__law_order_right, m1, m2, m3, m4, m5, a1, a2, a3, a4, eq_int, ne_int, beq_self_eq_true, cmp_eq, isi_int, bnd_ap, of_ap, seq_ap, asg_ap, ret_ap, retN_ap, sif_ap, expr_ap, par_ap, par3_ap, asgT_ap, nil_ap, brk_ap, cnt_ap, give_val, give_own, give_ali, take_val, take_own, take_ali, ta_nil, ta_cons, pk_val, pk_own, pk_ali, pa_nil', pa_cons', var_ap, lit_ap, op_ap, un_ap, cb_ap, lc_ap, ln_ap, tup_ap, lst_ap, cv_ap, ck_ap, cl_ap, and_ap, or_ap, not_ap, eif_ap, bval_ap, bnot_ap, band_ap, bor_ap, gnam_ap, gtup_ap, gend_ap, gcons_ap, rng_ap, for_ap, loop_nil, setIx_ap, run_ap, M.ret, unpk, asB, back, retS, fit_of, sInt, sBl, fIx, fLen, fAbs, fInt, fList, Mi.isNon, fIsN, fNotN, fCmp, fLt, fLe, fGt, fGe, fAdd, fSub, fNeg, O.frz, Mi.pick, List.getElem?_cons_zero, List.getElem?_cons_succ, List.getElem?_nil, List.set_cons_zero, List.set_cons_succ, List.map_cons, List.map_nil, List.length_cons, List.length_nil, List.replicate_succ, List.replicate_zero, List.cons_append, List.nil_append, Option.map_some, Option.map_none, if_true, if_false, Bool.false_eq_true, Bool.not_true, Bool.not_false, decide_true, decide_false, reduceIte, ne_eq, not_true_eq_false, not_false_eq_true, List.getD_cons_zero, List.getD_cons_succ, Nat.reduceAdd, Nat.reduceSub, Nat.reduceLeDiff, Nat.reduceEqDiff, atI_0, atI_1, atI_2]
/-! #### what is refused -/
theorem isi_exc (fs : List (Str × D)) : fIsi isT [.exc "BadRatio" fs, .cls "BadRatio"] = some (.val (.bl true)) := rfl
theorem ct_bad : ct_SeenError "BadRatio" = some true := rfl
theorem heard_ok (x : Str) : g__law_heard (.exc "BadRatio" [("part", .str x)]) = .ok (.val (.str x)) := by
  have fd : fldD "part" [] es_part (.exc "BadRatio" [("part", .str x)]) = some (.val (.str x)) := rfl
  have th : ∀ (τ : List Mi.S), eThunk (.exc "BadRatio" [("part", .str x)]) (.raw :: τ) = .exc "BadRatio" [("part", .str x)] (.raw :: τ) := fun τ => rfl
  simp only [g__law_heard, runG, m__law_heard, try_ap, th, ct_bad, isi_exc, fd, okFl, bnd_ap, of_ap, seq_ap, asg_ap, ret_ap, retN_ap, sif_ap, expr_ap, par_ap, par3_ap, asgT_ap, nil_ap, brk_ap, cnt_ap, give_val, give_own, give_ali, take_val, take_own, take_ali, ta_nil, ta_cons, pk_val, pk_own, pk_ali, pa_nil', pa_cons', var_ap, lit_ap, op_ap, un_ap, cb_ap, lc_ap, ln_ap, tup_ap, lst_ap, cv_ap, ck_ap, cl_ap, and_ap, or_ap, not_ap, eif_ap, bval_ap, bnot_ap, band_ap, bor_ap, gnam_ap, gtup_ap, gend_ap, gcons_ap, rng_ap, for_ap, loop_nil, setIx_ap, run_ap, M.ret, unpk, asB, back, retS, fit_of, sInt, sBl, fIx, fLen, fAbs, fInt, fList, Mi.isNon, fIsN, fNotN, fCmp, fLt, fLe, fGt, fGe, fAdd, fSub, fNeg, O.frz, Mi.pick, List.getElem?_cons_zero, List.getElem?_cons_succ, List.getElem?_nil, List.set_cons_zero, List.set_cons_succ, List.map_cons, List.map_nil, List.length_cons, List.length_nil, List.replicate_succ, List.replicate_zero, List.cons_append, List.nil_append, Option.map_some, Option.map_none, if_true, if_false, Bool.false_eq_true, Bool.not_true, Bool.not_false, decide_true, decide_false, reduceIte, ne_eq, not_true_eq_false, not_false_eq_true, List.getD_cons_zero, List.getD_cons_succ, Nat.reduceAdd, Nat.reduceSub, Nat.reduceLeDiff, Nat.reduceEqDiff, atI_0, atI_1, atI_2]
end K04

namespace K04
open PySem PySem.Spec PyProof.Rows L2 Mi
def BadL (x : Rat) : List D := [.non, .int 5, .str "1 2", .tup [.int 1], .tup [.int 1, .int 2, .int 3], .tup [.int 2, .int 4], .tup [.int 0, .int 2], .tup [.int 1, .int 0], .tup [.int 0, .int 0], .tup [.int 1, .int (-2)], .tup [.bl true, .int 1], .tup [.int 1, .bl true], .tup [.str "1", .int 2], .lst [.lst [.int 1], .int 2], .dic [], .tup [.int x.num, .int (-x.den)]]
theorem bad_all {x : Rat} : ∀ b ∈ BadL x, Bad b := by
  have two : ∀ {d : D} {a b : Int}, d = .tup [.int a, .int b] → (decide (0 < b) && (((Nat.gcd a.natAbs b.natAbs : Nat) : Int) == 1)) = false → Bad d := fun {d a b} h e => by
    have := is_ratio_two (d := d) (.inr h)
    rw [e] at this
    exact this
  have no : ∀ {d : D} {xs : List D}, d = .lst xs ∨ d = .tup xs → (∀ y ∈ xs, Pl y) → xs.length ≤ 1000 → (xs.map isI).all id = false → Bad d := fun {d xs} h hx hl e => by
    have := are_integers_seq h hx hl
    rw [e] at this
    exact is_ratio_no this
  have pl2 : ∀ {a b : D}, Pl a → Pl b → ∀ y ∈ [a, b], Pl y := fun {a b} ha hb y hy => by
    simp only [List.mem_cons, List.not_mem_nil, or_false] at hy
    rcases hy with rfl | rfl
    · exact ha
    · exact hb
  intro b hb
  simp only [BadL, List.mem_cons, List.not_mem_nil, or_false] at hb
  rcases hb with rfl | rfl | rfl | rfl | rfl | rfl | rfl | rfl | rfl | rfl | rfl | rfl | rfl | rfl | rfl | rfl
  · exact is_ratio_no (are_integers_no rfl)
  · exact is_ratio_no (are_integers_no rfl)
  · exact is_ratio_no (are_integers_no rfl)
  · exact is_ratio_len (.inr rfl) (are_integers_seq (.inr rfl) (fun y hy => by simp only [List.mem_cons, List.not_mem_nil, or_false] at hy; subst hy; trivial) (by simp)) (by decide)
  · exact is_ratio_len (.inr rfl) (are_integers_seq (.inr rfl) (fun y hy => by simp only [List.mem_cons, List.not_mem_nil, or_false] at hy; rcases hy with rfl | rfl | rfl <;> trivial) (by simp)) (by decide)
  · exact two rfl (by decide)
  · exact two rfl (by decide)
  · exact two rfl (by decide)
  · exact two rfl (by decide)
  · exact two rfl (by decide)
  · exact no (.inr rfl) (pl2 trivial trivial) (by simp) rfl
  · exact no (.inr rfl) (pl2 trivial trivial) (by simp) rfl
  · exact no (.inr rfl) (pl2 trivial trivial) (by simp) rfl
  · exact no (.inl rfl) (pl2 trivial trivial) (by simp) rfl
  · exact is_ratio_no (are_integers_no rfl)
  · exact two rfl (by
      have := x.den_nz
      rw [decide_eq_false (by omega)]
      rfl)
theorem lam_ap (cap : List Nat) (ml : M Mi.S) (g : Th → R Mi.S) (τ : List Mi.S) : eLam cap ml g τ = (M.bnd (takeAll (cap.map .ali)) fun _ => fun τ => match g (thk ml τ) with
  | .ok s => .ok (s, τ)
  | .exc c fs _ => .exc c fs τ
  | .stuck => .stuck) τ := rfl
theorem callF_ap (i : Nat) (tab : Str → Option Fn) (ms : M (List Mi.S)) (τ : List Mi.S) : eCallF i tab ms τ = match τ[i]? with
  | some (.val (.fn g)) => (match tab g with
    | some mf => eCallV mf ms τ
    | none => .stuck)
  | _ => .stuck := rfl
theorem append_ap (mo : M Mi.S) (ms : M (List Mi.S)) (τ : List Mi.S) : eAppend mo ms τ = (M.bnd mo fun s => M.bnd (Mi.isL s) fun _ => M.bnd ms fun ss => match s, ss with
  | .ali k, [t] => M.bnd (take t) fun d => M.bnd (onL k (app1 d)) fun _ => M.ret (.val .non)
  | _, _ => fun _ => .stuck) τ := rfl
theorem app_of {d : D} {xs : List D} (h : xs.length ≤ 1000) : app1 d xs = some (xs ++ [d]) := by
  unfold app1
  rw [if_pos]
  rw [sizeLine_eq]; omega
theorem thk_exc {ml : M Mi.S} {τ τ' : List Mi.S} {c : Str} {fs : List (Str × D)} (h : ml (only τ) = .exc c fs τ') : thk ml τ = .exc c fs := by
  unfold thk M.bnd
  rw [h]
theorem ne_3 : fNe (.lst [.str "one", .str "other", .str "one"]) (.lst [.str "one", .str "other", .str "one"]) = some (.val (.bl false)) := by kernel_rfl
theorem eq_2 : fEq (.lst [.str "other", .str "one"]) (.lst [.str "other", .str "one"]) = some (.val (.bl true)) := by kernel_rfl
noncomputable def rfB : M Fl := sSeq (sAsg 6 (eLst (lCons (eLam [3, 4, 5] (eCallF 5 ft__law_refused_right (lCons (eVar 3) (lCons (eVar 4) (lNil)))) g__law_heard) (lNil)))) (sSeq (sExpr (eAppend (eVar 6) (lCons (eLam [1, 4, 5] (eCallF 5 ft__law_refused_right (lCons (eVar 1) (lCons (eVar 4) (lNil)))) g__law_heard) (lNil)))) (sSeq (sExpr (eAppend (eVar 6) (lCons (eLam [1, 3, 5] (eCallF 5 ft__law_refused_right (lCons (eVar 3) (lCons (eVar 1) (lNil)))) g__law_heard) (lNil)))) (sIf (bVal (eOp fNe (eVar 6) (eLst (lCons (eLit (.str "one")) (lCons (eLit (.str "other")) (lCons (eLit (.str "one")) (lNil))))))) (sRet (eLit (.bl false))) (sNil))))
theorem rfB_ok {o : O} {p b odd ill : D} {g : Str} {f : Fn} (r : Mi.S) (hg : ft__law_refused_right g = some f) (f1 : f [.val odd, .val ill] = .exc "BadRatio" [("part", .str "one")] [.non, .non]) (f2 : f [.val p, .val ill] = .exc "BadRatio" [("part", .str "other")] [.non, .non]) (f3 : f [.val odd, .val p] = .exc "BadRatio" [("part", .str "one")] [.non, .non]) :
    rfB [.lent 0 o, .val p, .val b, .val odd, .val ill, .val (.fn g), r] = .ok (.nx, [.lent 0 o, .val p, .val b, .val odd, .val ill, .val (.fn g), .own (.lst [.str "one", .str "other", .str "one"])]) := by
  have t1 : ∀ r, thk (eCallF 5 ft__law_refused_right (lCons (eVar 3) (lCons (eVar 4) (lNil)))) [.lent 0 o, .val p, .val b, .val odd, .val ill, .val (.fn g), r] = .exc "BadRatio" [("part", .str "one")] := fun r => thk_exc (τ' := only [.lent 0 o, .val p, .val b, .val odd, .val ill, .val (.fn g), r]) (by
    simp only [only, callF_ap, hg, f1, bnd_ap, of_ap, seq_ap, asg_ap, ret_ap, retN_ap, sif_ap, expr_ap, par_ap, par3_ap, asgT_ap, nil_ap, brk_ap, cnt_ap, give_val, give_own, give_ali, take_val, take_own, take_ali, ta_nil, ta_cons, pk_val, pk_own, pk_ali, pa_nil', pa_cons', var_ap, lit_ap, op_ap, un_ap, cb_ap, lc_ap, ln_ap, tup_ap, lst_ap, cv_ap, ck_ap, cl_ap, and_ap, or_ap, not_ap, eif_ap, bval_ap, bnot_ap, band_ap, bor_ap, gnam_ap, gtup_ap, gend_ap, gcons_ap, rng_ap, for_ap, loop_nil, setIx_ap, run_ap, M.ret, unpk, asB, back, retS, fit_of, sInt, sBl, fIx, fLen, fAbs, fInt, fList, Mi.isNon, fIsN, fNotN, fCmp, fLt, fLe, fGt, fGe, fAdd, fSub, fNeg, O.frz, Mi.pick, List.getElem?_cons_zero, List.getElem?_cons_succ, List.getElem?_nil, List.set_cons_zero, List.set_cons_succ, List.map_cons, List.map_nil, List.length_cons, List.length_nil, List.replicate_succ, List.replicate_zero, List.cons_append, List.nil_append, Option.map_some, Option.map_none, if_true, if_false, Bool.false_eq_true, Bool.not_true, Bool.not_false, decide_true, decide_false, reduceIte, ne_eq, not_true_eq_false, not_false_eq_true, List.getD_cons_zero, List.getD_cons_succ, Nat.reduceAdd, Nat.reduceSub, Nat.reduceLeDiff, Nat.reduceEqDiff, atI_0, atI_1, atI_2])
  have t2 : ∀ r, thk (eCallF 5 ft__law_refused_right (lCons (eVar 1) (lCons (eVar 4) (lNil)))) [.lent 0 o, .val p, .val b, .val odd, .val ill, .val (.fn g), r] = .exc "BadRatio" [("part", .str "other")] := fun r => thk_exc (τ' := only [.lent 0 o, .val p, .val b, .val odd, .val ill, .val (.fn g), r]) (by
    simp only [only, callF_ap, hg, f2, bnd_ap, of_ap, seq_ap, asg_ap, ret_ap, retN_ap, sif_ap, expr_ap, par_ap, par3_ap, asgT_ap, nil_ap, brk_ap, cnt_ap, give_val, give_own, give_ali, take_val, take_own, take_ali, ta_nil, ta_cons, pk_val, pk_own, pk_ali, pa_nil', pa_cons', var_ap, lit_ap, op_ap, un_ap, cb_ap, lc_ap, ln_ap, tup_ap, lst_ap, cv_ap, ck_ap, cl_ap, and_ap, or_ap, not_ap, eif_ap, bval_ap, bnot_ap, band_ap, bor_ap, gnam_ap, gtup_ap, gend_ap, gcons_ap, rng_ap, for_ap, loop_nil, setIx_ap, run_ap, M.ret, unpk, asB, back, retS, fit_of, sInt, sBl, fIx, fLen, fAbs, fInt, fList, Mi.isNon, fIsN, fNotN, fCmp, fLt, fLe, fGt, fGe, fAdd, fSub, fNeg, O.frz, Mi.pick, List.getElem?_cons_zero, List.getElem?_cons_succ, List.getElem?_nil, List.set_cons_zero, List.set_cons_succ, List.map_cons, List.map_nil, List.length_cons, List.length_nil, List.replicate_succ, List.replicate_zero, List.cons_append, List.nil_append, Option.map_some, Option.map_none, if_true, if_false, Bool.false_eq_true, Bool.not_true, Bool.not_false, decide_true, decide_false, reduceIte, ne_eq, not_true_eq_false, not_false_eq_true, List.getD_cons_zero, List.getD_cons_succ, Nat.reduceAdd, Nat.reduceSub, Nat.reduceLeDiff, Nat.reduceEqDiff, atI_0, atI_1, atI_2])
  have t3 : ∀ r, thk (eCallF 5 ft__law_refused_right (lCons (eVar 3) (lCons (eVar 1) (lNil)))) [.lent 0 o, .val p, .val b, .val odd, .val ill, .val (.fn g), r] = .exc "BadRatio" [("part", .str "one")] := fun r => thk_exc (τ' := only [.lent 0 o, .val p, .val b, .val odd, .val ill, .val (.fn g), r]) (by
    simp only [only, callF_ap, hg, f3, bnd_ap, of_ap, seq_ap, asg_ap, ret_ap, retN_ap, sif_ap, expr_ap, par_ap, par3_ap, asgT_ap, nil_ap, brk_ap, cnt_ap, give_val, give_own, give_ali, take_val, take_own, take_ali, ta_nil, ta_cons, pk_val, pk_own, pk_ali, pa_nil', pa_cons', var_ap, lit_ap, op_ap, un_ap, cb_ap, lc_ap, ln_ap, tup_ap, lst_ap, cv_ap, ck_ap, cl_ap, and_ap, or_ap, not_ap, eif_ap, bval_ap, bnot_ap, band_ap, bor_ap, gnam_ap, gtup_ap, gend_ap, gcons_ap, rng_ap, for_ap, loop_nil, setIx_ap, run_ap, M.ret, unpk, asB, back, retS, fit_of, sInt, sBl, fIx, fLen, fAbs, fInt, fList, Mi.isNon, fIsN, fNotN, fCmp, fLt, fLe, fGt, fGe, fAdd, fSub, fNeg, O.frz, Mi.pick, List.getElem?_cons_zero, List.getElem?_cons_succ, List.getElem?_nil, List.set_cons_zero, List.set_cons_succ, List.map_cons, List.map_nil, List.length_cons, List.length_nil, List.replicate_succ, List.replicate_zero, List.cons_append, List.nil_append, Option.map_some, Option.map_none, if_true, if_false, Bool.false_eq_true, Bool.not_true, Bool.not_false, decide_true, decide_false, reduceIte, ne_eq, not_true_eq_false, not_false_eq_true, List.getD_cons_zero, List.getD_cons_succ, Nat.reduceAdd, Nat.reduceSub, Nat.reduceLeDiff, Nat.reduceEqDiff, atI_0, atI_1, atI_2])
  have ap : ∀ (d : D) (xs : List D), xs.length ≤ 1000 → app1 d xs = some (xs ++ [d]) := fun d xs h => app_of h
  simp only [rfB, lam_ap, append_ap, Mi.isL, onL, app_of, t1, t2, t3, heard_ok, ne_3, bnd_ap, of_ap, seq_ap, asg_ap, ret_ap, retN_ap, sif_ap, expr_ap, par_ap, par3_ap, asgT_ap, nil_ap, brk_ap, cnt_ap, give_val, give_own, give_ali, take_val, take_own, take_ali, ta_nil, ta_cons, pk_val, pk_own, pk_ali, pa_nil', pa_cons', var_ap, lit_ap, op_ap, un_ap, cb_ap, lc_ap, ln_ap, tup_ap, lst_ap, cv_ap, ck_ap, cl_ap, and_ap, or_ap, not_ap, eif_ap, bval_ap, bnot_ap, band_ap, bor_ap, gnam_ap, gtup_ap, gend_ap, gcons_ap, rng_ap, for_ap, loop_nil, setIx_ap, run_ap, M.ret, unpk, asB, back, retS, fit_of, sInt, sBl, fIx, fLen, fAbs, fInt, fList, Mi.isNon, fIsN, fNotN, fCmp, fLt, fLe, fGt, fGe, fAdd, fSub, fNeg, O.frz, Mi.pick, List.getElem?_cons_zero, List.getElem?_cons_succ, List.getElem?_nil, List.set_cons_zero, List.set_cons_succ, List.map_cons, List.map_nil, List.length_cons, List.length_nil, List.replicate_succ, List.replicate_zero, List.cons_append, List.nil_append, Option.map_some, Option.map_none, if_true, if_false, Bool.false_eq_true, Bool.not_true, Bool.not_false, decide_true, decide_false, reduceIte, ne_eq, not_true_eq_false, not_false_eq_true, List.getD_cons_zero, List.getD_cons_succ, Nat.reduceAdd, Nat.reduceSub, Nat.reduceLeDiff, Nat.reduceEqDiff, atI_0, atI_1, atI_2]
theorem refused_v {o : O} {n : Nat} {x : Rat} (h : VS o n) (hn : n < 800000) (hx : Sm 31 x) : ∃ o', f__law_refused_right [.lent 0 o, .val (pr x)] = .ok (.val (.bl true), [.lent 0 o', .non]) ∧ VS o' (n + 2) := by
  obtain ⟨odd, o1, e1, b1, v1⟩ := pick_v (xs := BadL x) h (by omega) (by simp [BadL]) (by simp [BadL])
  obtain ⟨ill, o2, e2, b2, v2⟩ := pick_v (xs := BadL x) v1 (by omega) (by simp [BadL]) (by simp [BadL])
  have B1 := bad_all _ b1
  have B2 := bad_all _ b2
  have gd : Good (.tup [.int x.num, .int x.den]) := is_ratio_ok (.inl rfl)
  have A := fun q => ops_1 (q := q) B1
  have C := ops_2 gd B2
  refine ⟨o2, ?_, v2⟩
  have zx := hx.sz (by decide)
  have z0 : Sz 0 := ⟨by decide, by decide⟩
  have ov := over_0 (x := x) (y := 0) (p := .tup [.int x.num, .int x.den]) (q := .tup [.int 0, .int 1]) (.inl rfl) (.inl rfl) zx z0 rfl
  have ow := (A (.tup [.int 0, .int 1])).2.2.2.1
  have q1 := fun r => rfB_ok (o := o2) (b := .lst (BadL x)) (g := "plus") (f := f_plus) r rfl (A ill).1 C.1 (A (.tup [.int x.num, .int x.den])).1
  have q2 := fun r => rfB_ok (o := o2) (b := .lst (BadL x)) (g := "minus") (f := f_minus) r rfl (A ill).2.1 C.2.1 (A (.tup [.int x.num, .int x.den])).2.1
  have q3 := fun r => rfB_ok (o := o2) (b := .lst (BadL x)) (g := "times") (f := f_times) r rfl (A ill).2.2.1 C.2.2.1 (A (.tup [.int x.num, .int x.den])).2.2.1
  have q4 := fun r => rfB_ok (o := o2) (b := .lst (BadL x)) (g := "over") (f := f_over) r rfl (A ill).2.2.2.1 C.2.2.2.1 (A (.tup [.int x.num, .int x.den])).2.2.2.1
  have q5 := fun r => rfB_ok (o := o2) (b := .lst (BadL x)) (g := "compared") (f := f_compared) r rfl (A ill).2.2.2.2 C.2.2.2.2 (A (.tup [.int x.num, .int x.den])).2.2.2.2
  have it : ∀ τ : List Mi.S, iSeq (eTup (lCons (eLit (.fn "plus")) (lCons (eLit (.fn "minus")) (lCons (eLit (.fn "times")) (lCons (eLit (.fn "over")) (lCons (eLit (.fn "compared")) (lNil))))))) τ = .ok (([.fn "plus", .fn "minus", .fn "times", .fn "over", .fn "compared"], noPin), τ) := fun τ => by
    rw [seqi_val (d := .tup [.fn "plus", .fn "minus", .fn "times", .fn "over", .fn "compared"]) _ _ (by simp only [bnd_ap, of_ap, seq_ap, asg_ap, ret_ap, retN_ap, sif_ap, expr_ap, par_ap, par3_ap, asgT_ap, nil_ap, brk_ap, cnt_ap, give_val, give_own, give_ali, take_val, take_own, take_ali, ta_nil, ta_cons, pk_val, pk_own, pk_ali, pa_nil', pa_cons', var_ap, lit_ap, op_ap, un_ap, cb_ap, lc_ap, ln_ap, tup_ap, lst_ap, cv_ap, ck_ap, cl_ap, and_ap, or_ap, not_ap, eif_ap, bval_ap, bnot_ap, band_ap, bor_ap, gnam_ap, gtup_ap, gend_ap, gcons_ap, rng_ap, for_ap, loop_nil, setIx_ap, run_ap, M.ret, unpk, asB, back, retS, fit_of, sInt, sBl, fIx, fLen, fAbs, fInt, fList, Mi.isNon, fIsN, fNotN, fCmp, fLt, fLe, fGt, fGe, fAdd, fSub, fNeg, O.frz, Mi.pick, List.getElem?_cons_zero, List.getElem?_cons_succ, List.getElem?_nil, List.set_cons_zero, List.set_cons_succ, List.map_cons, List.map_nil, List.length_cons, List.length_nil, List.replicate_succ, List.replicate_zero, List.cons_append, List.nil_append, Option.map_some, Option.map_none, if_true, if_false, Bool.false_eq_true, Bool.not_true, Bool.not_false, decide_true, decide_false, reduceIte, ne_eq, not_true_eq_false, not_false_eq_true, List.getD_cons_zero, List.getD_cons_succ, Nat.reduceAdd, Nat.reduceSub, Nat.reduceLeDiff, Nat.reduceEqDiff, atI_0, atI_1, atI_2])]
    rfl
  have t1 : ∀ τ : List Mi.S, thk (eCallV f_over (lCons (eVar 1) (lCons (eTup (lCons (eLit (.int 0)) (lCons (eLit (.int 1)) (lNil)))) (lNil)))) (.lent 0 o2 :: .val (.tup [.int x.num, .int x.den]) :: τ) = .exc "BadRatio" [("part", .str "other")] := fun τ => thk_exc (τ' := only (.lent 0 o2 :: .val (.tup [.int x.num, .int x.den]) :: τ)) (by
    simp only [only, ov, bnd_ap, of_ap, seq_ap, asg_ap, ret_ap, retN_ap, sif_ap, expr_ap, par_ap, par3_ap, asgT_ap, nil_ap, brk_ap, cnt_ap, give_val, give_own, give_ali, take_val, take_own, take_ali, ta_nil, ta_cons, pk_val, pk_own, pk_ali, pa_nil', pa_cons', var_ap, lit_ap, op_ap, un_ap, cb_ap, lc_ap, ln_ap, tup_ap, lst_ap, cv_ap, ck_ap, cl_ap, and_ap, or_ap, not_ap, eif_ap, bval_ap, bnot_ap, band_ap, bor_ap, gnam_ap, gtup_ap, gend_ap, gcons_ap, rng_ap, for_ap, loop_nil, setIx_ap, run_ap, M.ret, unpk, asB, back, retS, fit_of, sInt, sBl, fIx, fLen, fAbs, fInt, fList, Mi.isNon, fIsN, fNotN, fCmp, fLt, fLe, fGt, fGe, fAdd, fSub, fNeg, O.frz, Mi.pick, List.getElem?_cons_zero, List.getElem?_cons_succ, List.getElem?_nil, List.set_cons_zero, List.set_cons_succ, List.map_cons, List.map_nil, List.length_cons, List.length_nil, List.replicate_succ, List.replicate_zero, List.cons_append, List.nil_append, Option.map_some, Option.map_none, if_true, if_false, Bool.false_eq_true, Bool.not_true, Bool.not_false, decide_true, decide_false, reduceIte, ne_eq, not_true_eq_false, not_false_eq_true, List.getD_cons_zero, List.getD_cons_succ, Nat.reduceAdd, Nat.reduceSub, Nat.reduceLeDiff, Nat.reduceEqDiff, atI_0, atI_1, atI_2])
  have t2 : ∀ (a b c : Mi.S) (τ : List Mi.S), thk (eCallV f_over (lCons (eVar 3) (lCons (eTup (lCons (eLit (.int 0)) (lCons (eLit (.int 1)) (lNil)))) (lNil)))) (a :: b :: c :: .val odd :: τ) = .exc "BadRatio" [("part", .str "one")] := fun a b c τ => thk_exc (τ' := only (a :: b :: c :: .val odd :: τ)) (by
    simp only [only, ow, bnd_ap, of_ap, seq_ap, asg_ap, ret_ap, retN_ap, sif_ap, expr_ap, par_ap, par3_ap, asgT_ap, nil_ap, brk_ap, cnt_ap, give_val, give_own, give_ali, take_val, take_own, take_ali, ta_nil, ta_cons, pk_val, pk_own, pk_ali, pa_nil', pa_cons', var_ap, lit_ap, op_ap, un_ap, cb_ap, lc_ap, ln_ap, tup_ap, lst_ap, cv_ap, ck_ap, cl_ap, and_ap, or_ap, not_ap, eif_ap, bval_ap, bnot_ap, band_ap, bor_ap, gnam_ap, gtup_ap, gend_ap, gcons_ap, rng_ap, for_ap, loop_nil, setIx_ap, run_ap, M.ret, unpk, asB, back, retS, fit_of, sInt, sBl, fIx, fLen, fAbs, fInt, fList, Mi.isNon, fIsN, fNotN, fCmp, fLt, fLe, fGt, fGe, fAdd, fSub, fNeg, O.frz, Mi.pick, List.getElem?_cons_zero, List.getElem?_cons_succ, List.getElem?_nil, List.set_cons_zero, List.set_cons_succ, List.map_cons, List.map_nil, List.length_cons, List.length_nil, List.replicate_succ, List.replicate_zero, List.cons_append, List.nil_append, Option.map_some, Option.map_none, if_true, if_false, Bool.false_eq_true, Bool.not_true, Bool.not_false, decide_true, decide_false, reduceIte, ne_eq, not_true_eq_false, not_false_eq_true, List.getD_cons_zero, List.getD_cons_succ, Nat.reduceAdd, Nat.reduceSub, Nat.reduceLeDiff, Nat.reduceEqDiff, atI_0, atI_1, atI_2])
  have mb : m__law_refused_right = sSeq (sAsg 2 (eLst (lCons (eLit .non) (lCons (eLit (.int 5)) (lCons (eLit (.str "1 2")) (lCons (eTup (lCons (eLit (.int 1)) (lNil))) (lCons (eTup (lCons (eLit (.int 1)) (lCons (eLit (.int 2)) (lCons (eLit (.int 3)) (lNil))))) (lCons (eTup (lCons (eLit (.int 2)) (lCons (eLit (.int 4)) (lNil)))) (lCons (eTup (lCons (eLit (.int 0)) (lCons (eLit (.int 2)) (lNil)))) (lCons (eTup (lCons (eLit (.int 1)) (lCons (eLit (.int 0)) (lNil)))) (lCons (eTup (lCons (eLit (.int 0)) (lCons (eLit (.int 0)) (lNil)))) (lCons (eTup (lCons (eLit (.int 1)) (lCons (eUn fNeg (eLit (.int 2))) (lNil)))) (lCons (eTup (lCons (eLit (.bl true)) (lCons (eLit (.int 1)) (lNil)))) (lCons (eTup (lCons (eLit (.int 1)) (lCons (eLit (.bl true)) (lNil)))) (lCons (eTup (lCons (eLit (.str "1")) (lCons (eLit (.int 2)) (lNil)))) (lCons (eLst (lCons (eLst (lCons (eLit (.int 1)) (lNil))) (lCons (eLit (.int 2)) (lNil)))) (lCons (eLit (.dic [])) (lCons (eTup (lCons (eOp fIx (eVar 1) (eLit (.int 0))) (lCons (eUn fNeg (eOp fIx (eVar 1) (eLit (.int 1)))) (lNil)))) (lNil))))))))))))))))))) (sSeq (sAsgT (gTupM 2 (gsCons (gNam 3) (gsCons (gNam 4) (gsEnd)))) (eTup (lCons (eCallL f__law_pick (lCons (eVar 0) (lCons (eVar 2) (lNil)))) (lCons (eCallL f__law_pick (lCons (eVar 0) (lCons (eVar 2) (lNil)))) (lNil))))) (sSeq (sFor (iSeq (eTup (lCons (eLit (.fn "plus")) (lCons (eLit (.fn "minus")) (lCons (eLit (.fn "times")) (lCons (eLit (.fn "over")) (lCons (eLit (.fn "compared")) (lNil)))))))) (gNam 5) rfB) (sSeq (sAsg 6 (eLst (lCons (eLam [1] (eCallV f_over (lCons (eVar 1) (lCons (eTup (lCons (eLit (.int 0)) (lCons (eLit (.int 1)) (lNil)))) (lNil)))) g__law_heard) (lNil)))) (sSeq (sExpr (eAppend (eVar 6) (lCons (eLam [3] (eCallV f_over (lCons (eVar 3) (lCons (eTup (lCons (eLit (.int 0)) (lCons (eLit (.int 1)) (lNil)))) (lNil)))) g__law_heard) (lNil)))) (sRet (eOp fEq (eVar 6) (eLst (lCons (eLit (.str "other")) (lCons (eLit (.str "one")) (lNil)))))))))) := rfl
  rw [f__law_refused_right, run_ap, mb]
  simp only [BadL] at e1 e2 q1 q2 q3 q4 q5
  simp only [pr, lendTo, hand, e1, e2, it, loop_cons, q1, q2, q3, q4, q5, lam_ap, append_ap, Mi.isL, onL, app_of, t1, t2, heard_ok, eq_2, bnd_ap, of_ap, seq_ap, asg_ap, ret_ap, retN_ap, sif_ap, expr_ap, par_ap, par3_ap, asgT_ap, nil_ap, brk_ap, cnt_ap, give_val, give_own, give_ali, take_val, take_own, take_ali, ta_nil, ta_cons, pk_val, pk_own, pk_ali, pa_nil', pa_cons', var_ap, lit_ap, op_ap, un_ap, cb_ap, lc_ap, ln_ap, tup_ap, lst_ap, cv_ap, ck_ap, cl_ap, and_ap, or_ap, not_ap, eif_ap, bval_ap, bnot_ap, band_ap, bor_ap, gnam_ap, gtup_ap, gend_ap, gcons_ap, rng_ap, for_ap, loop_nil, setIx_ap, run_ap, M.ret, unpk, asB, back, retS, fit_of, sInt, sBl, fIx, fLen, fAbs, fInt, fList, Mi.isNon, fIsN, fNotN, fCmp, fLt, fLe, fGt, fGe, fAdd, fSub, fNeg, O.frz, Mi.pick, List.getElem?_cons_zero, List.getElem?_cons_succ, List.getElem?_nil, List.set_cons_zero, List.set_cons_succ, List.map_cons, List.map_nil, List.length_cons, List.length_nil, List.replicate_succ, List.replicate_zero, List.cons_append, List.nil_append, Option.map_some, Option.map_none, if_true, if_false, Bool.false_eq_true, Bool.not_true, Bool.not_false, decide_true, decide_false, reduceIte, ne_eq, not_true_eq_false, not_false_eq_true, List.getD_cons_zero, List.getD_cons_succ, Nat.reduceAdd, Nat.reduceSub, Nat.reduceLeDiff, Nat.reduceEqDiff, atI_0, atI_1, atI_2]
end K04

namespace K04
open PySem PySem.Spec PyProof.Rows L2 Mi
/-! #### the law -/
theorem vat_ok (ns : List Int) (hl : ns.length ≤ 63) : ∃ out, f__law_vat [.val (.scr (ns.map D.int))] = .ok (.own (Vt (ns.take 60) 0 0), out) := by
  have c0 : cut (ns.map D.int) none (some 60) = (ns.take 60).map D.int := by
    have e : HT.sIx (ns.map D.int).length (ns.map D.int).length (some 60) = min 60 (ns.map D.int).length := HT.sIx_nat _ _ 60
    unfold cut
    rw [HT.sIx_none, e, List.drop_zero, Nat.sub_zero, List.map_take, List.length_map]
    rw [List.take_eq_take_iff]
    simp only [List.length_map]
    omega
  have sl : ∀ τ : List Mi.S, τ[0]? = some (.val (.scr (ns.map D.int))) → eSl (eVar 0) pNone (pSome (eLit (.int 60))) τ = .ok (.own (.lst ((ns.take 60).map D.int)), τ) := fun τ h => by
    simp only [eSl, pNone, pSome, asI, fSl, h, c0, bnd_ap, of_ap, seq_ap, asg_ap, ret_ap, retN_ap, sif_ap, expr_ap, par_ap, par3_ap, asgT_ap, nil_ap, brk_ap, cnt_ap, give_val, give_own, give_ali, take_val, take_own, take_ali, ta_nil, ta_cons, pk_val, pk_own, pk_ali, pa_nil', pa_cons', var_ap, lit_ap, op_ap, un_ap, cb_ap, lc_ap, ln_ap, tup_ap, lst_ap, cv_ap, ck_ap, cl_ap, and_ap, or_ap, not_ap, eif_ap, bval_ap, bnot_ap, band_ap, bor_ap, gnam_ap, gtup_ap, gend_ap, gcons_ap, rng_ap, for_ap, loop_nil, setIx_ap, run_ap, M.ret, unpk, asB, back, retS, fit_of, sInt, sBl, fIx, fLen, fAbs, fInt, fList, Mi.isNon, fIsN, fNotN, fCmp, fLt, fLe, fGt, fGe, fAdd, fSub, fNeg, O.frz, Mi.pick, List.getElem?_cons_zero, List.getElem?_cons_succ, List.getElem?_nil, List.set_cons_zero, List.set_cons_succ, List.map_cons, List.map_nil, List.length_cons, List.length_nil, List.replicate_succ, List.replicate_zero, List.cons_append, List.nil_append, Option.map_some, Option.map_none, if_true, if_false, Bool.false_eq_true, Bool.not_true, Bool.not_false, decide_true, decide_false, reduceIte, ne_eq, not_true_eq_false, not_false_eq_true, List.getD_cons_zero, List.getD_cons_succ, Nat.reduceAdd, Nat.reduceSub, Nat.reduceLeDiff, Nat.reduceEqDiff, atI_0, atI_1, atI_2]
  have sq : iSeq (eSl (eVar 0) pNone (pSome (eLit (.int 60)))) [.val (.scr (ns.map D.int)), .non] = .ok (((ns.take 60).map D.int, noPin), [.val (.scr (ns.map D.int)), .non]) := by
    rw [seqi_own (o := .lst ((ns.take 60).map D.int)) _ _ (sl _ rfl)]
    rfl
  have cm : compM [1] noPin (gNam 1) bYes (eCB fInt (lCons (eVar 1) lNil)) ((ns.take 60).map D.int) [] [.val (.scr (ns.map D.int)), .non] = .ok ((ns.take 60).map D.int, [.val (.scr (ns.map D.int)), .non]) := by
    rw [compM_map (h := fun x => x) _ _ _ [] (fun x hm => by
      obtain ⟨i, _, rfl⟩ := List.mem_map.mp hm
      exact ⟨[.val (.scr (ns.map D.int)), .val (.int i)], [.val (.scr (ns.map D.int)), .val (.int i)], .val (.int i), [.val (.scr (ns.map D.int)), .val (.int i)], rfl, by simp only [bnd_ap, of_ap, seq_ap, asg_ap, ret_ap, retN_ap, sif_ap, expr_ap, par_ap, par3_ap, asgT_ap, nil_ap, brk_ap, cnt_ap, give_val, give_own, give_ali, take_val, take_own, take_ali, ta_nil, ta_cons, pk_val, pk_own, pk_ali, pa_nil', pa_cons', var_ap, lit_ap, op_ap, un_ap, cb_ap, lc_ap, ln_ap, tup_ap, lst_ap, cv_ap, ck_ap, cl_ap, and_ap, or_ap, not_ap, eif_ap, bval_ap, bnot_ap, band_ap, bor_ap, gnam_ap, gtup_ap, gend_ap, gcons_ap, rng_ap, for_ap, loop_nil, setIx_ap, run_ap, M.ret, unpk, asB, back, retS, fit_of, sInt, sBl, fIx, fLen, fAbs, fInt, fList, Mi.isNon, fIsN, fNotN, fCmp, fLt, fLe, fGt, fGe, fAdd, fSub, fNeg, O.frz, Mi.pick, List.getElem?_cons_zero, List.getElem?_cons_succ, List.getElem?_nil, List.set_cons_zero, List.set_cons_succ, List.map_cons, List.map_nil, List.length_cons, List.length_nil, List.replicate_succ, List.replicate_zero, List.cons_append, List.nil_append, Option.map_some, Option.map_none, if_true, if_false, Bool.false_eq_true, Bool.not_true, Bool.not_false, decide_true, decide_false, reduceIte, ne_eq, not_true_eq_false, not_false_eq_true, List.getD_cons_zero, List.getD_cons_succ, Nat.reduceAdd, Nat.reduceSub, Nat.reduceLeDiff, Nat.reduceEqDiff, atI_0, atI_1, atI_2], rfl, rfl⟩) (by simp; omega)]
    have mi : ∀ l : List D, l.map (fun x => x) = l := fun l => List.map_id l
    rw [mi, List.nil_append]
  have ec : eComp [1] (iSeq (eSl (eVar 0) pNone (pSome (eLit (.int 60))))) (gNam 1) bYes (eCB fInt (lCons (eVar 1) lNil)) [.val (.scr (ns.map D.int)), .non] = .ok (.own (.lst ((ns.take 60).map D.int)), [.val (.scr (ns.map D.int)), .non]) := by
    rw [ecomp_ap _ _ _ _ _ _ sq rfl]
    show (match compM [1] noPin (gNam 1) bYes (eCB fInt (lCons (eVar 1) lNil)) ((ns.take 60).map D.int) [] [.val (.scr (ns.map D.int)), .non] with
      | .ok (ds, τ2) => if realOk [.val (.scr (ns.map D.int)), .non] τ2 = true then R.ok (Mi.S.own (.lst ds), restT [1] [.val (.scr (ns.map D.int)), .non] τ2) else .stuck
      | _ => .stuck) = _
    rw [cm]
    rfl
  refine ⟨[.non], ?_⟩
  simp only [f__law_vat, m__law_vat, ec, Vt, bnd_ap, of_ap, seq_ap, asg_ap, ret_ap, retN_ap, sif_ap, expr_ap, par_ap, par3_ap, asgT_ap, nil_ap, brk_ap, cnt_ap, give_val, give_own, give_ali, take_val, take_own, take_ali, ta_nil, ta_cons, pk_val, pk_own, pk_ali, pa_nil', pa_cons', var_ap, lit_ap, op_ap, un_ap, cb_ap, lc_ap, ln_ap, tup_ap, lst_ap, cv_ap, ck_ap, cl_ap, and_ap, or_ap, not_ap, eif_ap, bval_ap, bnot_ap, band_ap, bor_ap, gnam_ap, gtup_ap, gend_ap, gcons_ap, rng_ap, for_ap, loop_nil, setIx_ap, run_ap, M.ret, unpk, asB, back, retS, fit_of, sInt, sBl, fIx, fLen, fAbs, fInt, fList, Mi.isNon, fIsN, fNotN, fCmp, fLt, fLe, fGt, fGe, fAdd, fSub, fNeg, O.frz, Mi.pick, List.getElem?_cons_zero, List.getElem?_cons_succ, List.getElem?_nil, List.set_cons_zero, List.set_cons_succ, List.map_cons, List.map_nil, List.length_cons, List.length_nil, List.replicate_succ, List.replicate_zero, List.cons_append, List.nil_append, Option.map_some, Option.map_none, if_true, if_false, Bool.false_eq_true, Bool.not_true, Bool.not_false, decide_true, decide_false, reduceIte, ne_eq, not_true_eq_false, not_false_eq_true, List.getD_cons_zero, List.getD_cons_succ, Nat.reduceAdd, Nat.reduceSub, Nat.reduceLeDiff, Nat.reduceEqDiff, atI_0, atI_1, atI_2]
theorem rest57 (a b c d e f g a' b' c' d' e' f' g' : Mi.S) : restT [5] [a, b, c, d, e, f, g] [a', b', c', d', e', f', g'] = [a', b', c', d', e', f, g'] := rfl
theorem pick_most {o : O} {n : Nat} (h : VS o n) (hn : n < 800000) : ∃ (m : Int) (o' : O), f__law_pick [.lent 0 o, .val (.lst [.int 4, .int 4, .int 30, .int 1000, .int 20000])] = .ok (.val (.int m), [.lent 0 o', .non]) ∧ 2 ≤ m ∧ m ≤ 2 ^ 30 ∧ VS o' (n + 1) := by
  obtain ⟨x, o', e, m, v⟩ := pick_v (xs := [.int 4, .int 4, .int 30, .int 1000, .int 20000]) h (by omega) (by simp) (by simp)
  simp only [List.mem_cons, List.not_mem_nil, or_false] at m
  rcases m with rfl | rfl | rfl | rfl | rfl
  · exact ⟨_, o', e, by omega, by omega, v⟩
  · exact ⟨_, o', e, by omega, by omega, v⟩
  · exact ⟨_, o', e, by omega, by omega, v⟩
  · exact ⟨_, o', e, by omega, by omega, v⟩
  · exact ⟨_, o', e, by omega, by omega, v⟩
noncomputable def lwB : M Fl := (sSeq (sAsgT (gTupM 2 (gsCons (gNam 3) (gsCons (gNam 4) (gsEnd)))) (eComp [5] (iRng ranged1 (lCons (eLit (.int 2)) (lNil))) (gNam 5) (bYes) (eCallL f__law_ratio (lCons (eVar 1) (lCons (eCallL f__law_pick (lCons (eVar 1) (lCons (eLst (lCons (eLit (.int 4)) (lCons (eLit (.int 4)) (lCons (eLit (.int 30)) (lCons (eLit (.int 1000)) (lCons (eLit (.int 20000)) (lNil))))))) (lNil)))) (lNil)))))) (sSeq (sIf (bOr (bNot (bVal (eCallV f__law_sums_right (lCons (eVar 3) (lCons (eVar 4) (lNil)))))) (bOr (bNot (bVal (eCallV f__law_order_right (lCons (eVar 3) (lCons (eVar 4) (lNil)))))) (bNot (bVal (eCallL f__law_refused_right (lCons (eVar 1) (lCons (eVar 3) (lNil)))))))) (sRet (eLit (.bl false))) (sNil)) (sSeq (sAsg 6 (eCallL f__law_ratio (lCons (eVar 1) (lCons (eLit (.int 30)) (lNil))))) (sSeq (sIf (bOr (bVal (eOp fNe (eCallV f_plus (lCons (eCallV f_plus (lCons (eVar 3) (lCons (eVar 4) (lNil)))) (lCons (eVar 6) (lNil)))) (eCallV f_plus (lCons (eVar 3) (lCons (eCallV f_plus (lCons (eVar 4) (lCons (eVar 6) (lNil)))) (lNil)))))) (bNot (bVal (eCallL f__law_wide_right (lCons (eVar 1) (lNil)))))) (sRet (eLit (.bl false))) (sNil)) (sIf (bVal (eOp fNe (eCallV f_times (lCons (eCallV f_plus (lCons (eVar 3) (lCons (eVar 4) (lNil)))) (lCons (eVar 6) (lNil)))) (eCallV f_plus (lCons (eCallV f_times (lCons (eVar 3) (lCons (eVar 6) (lNil)))) (lCons (eCallV f_times (lCons (eVar 4) (lCons (eVar 6) (lNil)))) (lNil)))))) (sRet (eLit (.bl false))) (sNil))))))
theorem rg2 : ranged1 [.int 2] = some [.int 0, .int 1] := rfl
theorem lwB_ok {o : O} {n : Nat} (s : D) (t r3 r4 r6 : Mi.S) (h : VS o n) (hn : n < 700000) : ∃ (o' : O) (t3 t4 t6 : Mi.S), lwB [.val s, .own o, t, r3, r4, .non, r6] = .ok (.nx, [.val s, .own o', t, t3, t4, .non, t6]) ∧ VS o' (n + 40) := by
  obtain ⟨k1, o1, e1, a1, b1, v1⟩ := pick_most h (by omega)
  obtain ⟨x, o2, e2, hx, v2⟩ := ratio_v v1 (by omega) a1 b1
  obtain ⟨k2, o3, e3, a3, b3, v3⟩ := pick_most v2 (by omega)
  obtain ⟨y, o4, e4, hy, v4⟩ := ratio_v v3 (by omega) a3 b3
  have hx1 := hx.up (k := 31) (by decide)
  have hy1 := hy.up (k := 31) (by decide)
  have su := sums_ok hx1 hy1
  have od := order_ok hx1 hy1
  obtain ⟨o5, e5, v5⟩ := refused_v v4 (by omega) hx1
  obtain ⟨z, o6, e6, hz, v6⟩ := ratio_v (most := 30) v5 (by omega) (by decide) (by decide)
  obtain ⟨o7, e7, v7⟩ := wide_v v6 (by omega)
  have zx := hx.sz (by decide)
  have zy := hy.sz (by decide)
  have zz := hz.sz (by decide)
  obtain ⟨s1, _, _, _⟩ := sm_all hx hy
  obtain ⟨s2, _, s3, _⟩ := sm_all hy hz
  obtain ⟨_, _, s4, _⟩ := sm_all hx hz
  have w1 := s1.sz (by decide)
  have w2 := s2.sz (by decide)
  have w3 := s3.sz (by decide)
  have w4 := s4.sz (by decide)
  have P : ∀ q : Rat, IsP q (.tup [.int q.num, .int q.den]) := fun q => .inl rfl
  have c1 := plus_ok (P x) (P y) zx zy
  have c2 := plus_ok (P (x + y)) (P z) w1 zz
  have c3 := plus_ok (P y) (P z) zy zz
  have c4 := plus_ok (P x) (P (y + z)) zx w2
  have c5 := times_ok (P (x + y)) (P z) w1 zz
  have c6 := times_ok (P x) (P z) zx zz
  have c7 := times_ok (P y) (P z) zy zz
  have c8 := plus_ok (P (x * z)) (P (y * z)) w4 w3
  rw [Rat.add_assoc] at c2
  rw [Rat.add_mul] at c5
  simp only [pr] at e2 e4 su od e5 e6 c1 c2 c3 c4 c5 c6 c7 c8
  have cm : eComp [5] (iRng ranged1 (lCons (eLit (.int 2)) (lNil))) (gNam 5) (bYes) (eCallL f__law_ratio (lCons (eVar 1) (lCons (eCallL f__law_pick (lCons (eVar 1) (lCons (eLst (lCons (eLit (.int 4)) (lCons (eLit (.int 4)) (lCons (eLit (.int 30)) (lCons (eLit (.int 1000)) (lCons (eLit (.int 20000)) (lNil))))))) (lNil)))) (lNil)))) [.val s, .own o, t, r3, r4, .non, r6] = .ok (.own (.lst [.tup [.int x.num, .int x.den], .tup [.int y.num, .int y.den]]), [.val s, .own o4, t, r3, r4, .non, r6]) := by
    have ri : iRng ranged1 (lCons (eLit (.int 2)) (lNil)) [.val s, .own o, t, r3, r4, .non, r6] = .ok (([.int 0, .int 1], noPin), [.val s, .own o, t, r3, r4, .non, r6]) := by
      simp only [rg2, bnd_ap, of_ap, seq_ap, asg_ap, ret_ap, retN_ap, sif_ap, expr_ap, par_ap, par3_ap, asgT_ap, nil_ap, brk_ap, cnt_ap, give_val, give_own, give_ali, take_val, take_own, take_ali, ta_nil, ta_cons, pk_val, pk_own, pk_ali, pa_nil', pa_cons', var_ap, lit_ap, op_ap, un_ap, cb_ap, lc_ap, ln_ap, tup_ap, lst_ap, cv_ap, ck_ap, cl_ap, and_ap, or_ap, not_ap, eif_ap, bval_ap, bnot_ap, band_ap, bor_ap, gnam_ap, gtup_ap, gend_ap, gcons_ap, rng_ap, for_ap, loop_nil, setIx_ap, run_ap, M.ret, unpk, asB, back, retS, fit_of, sInt, sBl, fIx, fLen, fAbs, fInt, fList, Mi.isNon, fIsN, fNotN, fCmp, fLt, fLe, fGt, fGe, fAdd, fSub, fNeg, O.frz, Mi.pick, List.getElem?_cons_zero, List.getElem?_cons_succ, List.getElem?_nil, List.set_cons_zero, List.set_cons_succ, List.map_cons, List.map_nil, List.length_cons, List.length_nil, List.replicate_succ, List.replicate_zero, List.cons_append, List.nil_append, Option.map_some, Option.map_none, if_true, if_false, Bool.false_eq_true, Bool.not_true, Bool.not_false, decide_true, decide_false, reduceIte, ne_eq, not_true_eq_false, not_false_eq_true, List.getD_cons_zero, List.getD_cons_succ, Nat.reduceAdd, Nat.reduceSub, Nat.reduceLeDiff, Nat.reduceEqDiff, atI_0, atI_1, atI_2]
    rw [ecomp_ap _ _ _ _ _ _ ri rfl]
    show (match compM [5] noPin (gNam 5) bYes _ [.int 0, .int 1] [] [.val s, .own o, t, r3, r4, .non, r6] with
      | .ok (ds, τ2) => if realOk [.val s, .own o, t, r3, r4, .non, r6] τ2 = true then R.ok (Mi.S.own (.lst ds), restT [5] [.val s, .own o, t, r3, r4, .non, r6] τ2) else .stuck
      | _ => .stuck) = _
    rw [comp_cons]
    simp only [byes_ap, lendTo, hand, e1, e2, wipeT, List.foldl, bnd_ap, of_ap, seq_ap, asg_ap, ret_ap, retN_ap, sif_ap, expr_ap, par_ap, par3_ap, asgT_ap, nil_ap, brk_ap, cnt_ap, give_val, give_own, give_ali, take_val, take_own, take_ali, ta_nil, ta_cons, pk_val, pk_own, pk_ali, pa_nil', pa_cons', var_ap, lit_ap, op_ap, un_ap, cb_ap, lc_ap, ln_ap, tup_ap, lst_ap, cv_ap, ck_ap, cl_ap, and_ap, or_ap, not_ap, eif_ap, bval_ap, bnot_ap, band_ap, bor_ap, gnam_ap, gtup_ap, gend_ap, gcons_ap, rng_ap, for_ap, loop_nil, setIx_ap, run_ap, M.ret, unpk, asB, back, retS, fit_of, sInt, sBl, fIx, fLen, fAbs, fInt, fList, Mi.isNon, fIsN, fNotN, fCmp, fLt, fLe, fGt, fGe, fAdd, fSub, fNeg, O.frz, Mi.pick, List.getElem?_cons_zero, List.getElem?_cons_succ, List.getElem?_nil, List.set_cons_zero, List.set_cons_succ, List.map_cons, List.map_nil, List.length_cons, List.length_nil, List.replicate_succ, List.replicate_zero, List.cons_append, List.nil_append, Option.map_some, Option.map_none, if_true, if_false, Bool.false_eq_true, Bool.not_true, Bool.not_false, decide_true, decide_false, reduceIte, ne_eq, not_true_eq_false, not_false_eq_true, List.getD_cons_zero, List.getD_cons_succ, Nat.reduceAdd, Nat.reduceSub, Nat.reduceLeDiff, Nat.reduceEqDiff, atI_0, atI_1, atI_2]
    rw [comp_cons]
    simp only [byes_ap, lendTo, hand, e3, e4, wipeT, List.foldl, comp_nil, rest57, bnd_ap, of_ap, seq_ap, asg_ap, ret_ap, retN_ap, sif_ap, expr_ap, par_ap, par3_ap, asgT_ap, nil_ap, brk_ap, cnt_ap, give_val, give_own, give_ali, take_val, take_own, take_ali, ta_nil, ta_cons, pk_val, pk_own, pk_ali, pa_nil', pa_cons', var_ap, lit_ap, op_ap, un_ap, cb_ap, lc_ap, ln_ap, tup_ap, lst_ap, cv_ap, ck_ap, cl_ap, and_ap, or_ap, not_ap, eif_ap, bval_ap, bnot_ap, band_ap, bor_ap, gnam_ap, gtup_ap, gend_ap, gcons_ap, rng_ap, for_ap, loop_nil, setIx_ap, run_ap, M.ret, unpk, asB, back, retS, fit_of, sInt, sBl, fIx, fLen, fAbs, fInt, fList, Mi.isNon, fIsN, fNotN, fCmp, fLt, fLe, fGt, fGe, fAdd, fSub, fNeg, O.frz, Mi.pick, List.getElem?_cons_zero, List.getElem?_cons_succ, List.getElem?_nil, List.set_cons_zero, List.set_cons_succ, List.map_cons, List.map_nil, List.length_cons, List.length_nil, List.replicate_succ, List.replicate_zero, List.cons_append, List.nil_append, Option.map_some, Option.map_none, if_true, if_false, Bool.false_eq_true, Bool.not_true, Bool.not_false, decide_true, decide_false, reduceIte, ne_eq, not_true_eq_false, not_false_eq_true, List.getD_cons_zero, List.getD_cons_succ, Nat.reduceAdd, Nat.reduceSub, Nat.reduceLeDiff, Nat.reduceEqDiff, atI_0, atI_1, atI_2]
    have ro : realOk [.val s, .own o, t, r3, r4, .non, r6] [.val s, .own o4, t, r3, r4, .non, r6] = true := by
      simp only [realOk, S.isReal]
      cases t <;> cases r3 <;> cases r4 <;> cases r6 <;> rfl
    rw [if_pos ro]
  refine ⟨o7, .val (.tup [.int x.num, .int x.den]), .val (.tup [.int y.num, .int y.den]), .val (.tup [.int z.num, .int z.den]), ?_, ?_⟩
  · simp only [lwB, cm, lendTo, hand, su, od, e5, e6, e7, c1, c2, c3, c4, c5, c6, c7, c8, ne_pair, beq_self_eq_true, Bool.and_self, bnd_ap, of_ap, seq_ap, asg_ap, ret_ap, retN_ap, sif_ap, expr_ap, par_ap, par3_ap, asgT_ap, nil_ap, brk_ap, cnt_ap, give_val, give_own, give_ali, take_val, take_own, take_ali, ta_nil, ta_cons, pk_val, pk_own, pk_ali, pa_nil', pa_cons', var_ap, lit_ap, op_ap, un_ap, cb_ap, lc_ap, ln_ap, tup_ap, lst_ap, cv_ap, ck_ap, cl_ap, and_ap, or_ap, not_ap, eif_ap, bval_ap, bnot_ap, band_ap, bor_ap, gnam_ap, gtup_ap, gend_ap, gcons_ap, rng_ap, for_ap, loop_nil, setIx_ap, run_ap, M.ret, unpk, asB, back, retS, fit_of, sInt, sBl, fIx, fLen, fAbs, fInt, fList, Mi.isNon, fIsN, fNotN, fCmp, fLt, fLe, fGt, fGe, fAdd, fSub, fNeg, O.frz, Mi.pick, List.getElem?_cons_zero, List.getElem?_cons_succ, List.getElem?_nil, List.set_cons_zero, List.set_cons_succ, List.map_cons, List.map_nil, List.length_cons, List.length_nil, List.replicate_succ, List.replicate_zero, List.cons_append, List.nil_append, Option.map_some, Option.map_none, if_true, if_false, Bool.false_eq_true, Bool.not_true, Bool.not_false, decide_true, decide_false, reduceIte, ne_eq, not_true_eq_false, not_false_eq_true, List.getD_cons_zero, List.getD_cons_succ, Nat.reduceAdd, Nat.reduceSub, Nat.reduceLeDiff, Nat.reduceEqDiff, atI_0, atI_1, atI_2]
  · obtain ⟨cells, sp, st, q1, q2, q3, q4, q5⟩ := v7
    exact ⟨cells, sp, st, q1, q2, q3, by omega, q5⟩
theorem lw_loop (s : D) : ∀ (ds : List D) (o : O) (n : Nat) (t r3 r4 r6 : Mi.S), VS o n → n + 40 * ds.length < 700000 → ∃ (o' : O) (t' t3 t4 t6 : Mi.S), loopM noPin (gNam 2) lwB ds [.val s, .own o, t, r3, r4, .non, r6] = .ok (.nx, [.val s, .own o', t', t3, t4, .non, t6])
  | [], o, n, t, r3, r4, r6, _, _ => ⟨o, t, r3, r4, r6, rfl⟩
  | d :: ds, o, n, t, r3, r4, r6, h, hn => by
    simp only [List.length_cons] at hn
    obtain ⟨o1, t3, t4, t6, e, v⟩ := lwB_ok s (.val d) r3 r4 r6 h (by omega)
    obtain ⟨o2, t', u3, u4, u6, e2⟩ := lw_loop s ds o1 (n + 40) (.val d) t3 t4 t6 v (by omega)
    refine ⟨o2, t', u3, u4, u6, ?_⟩
    rw [loop_cons]
    simp only [gnam_ap, List.set_cons_succ, List.set_cons_zero]
    rw [e]
    exact e2
theorem rg6 : ranged1 [.int 6] = some [.int 0, .int 1, .int 2, .int 3, .int 4, .int 5] := rfl
theorem law_true : ∀ ns : List Int, ns.length ≤ 63 → (∀ z ∈ ns, Builtin.Int.intBits z ≤ 1048576) → ∃ out, f_law [.val (.scr (ns.map D.int))] = .ok (.val (.bl true), out) := by
  intro ns hl _
  obtain ⟨out, ev⟩ := vat_ok ns hl
  have v0 : VS (Vt (ns.take 60) 0 0) 0 := ⟨ns.take 60, 0, 0, rfl, by rw [List.length_take]; omega, by decide, by decide, by decide⟩
  obtain ⟨o', t', t3, t4, t6, e⟩ := lw_loop (.scr (ns.map D.int)) [.int 0, .int 1, .int 2, .int 3, .int 4, .int 5] _ 0 .non .non .non .non v0 (by simp)
  have P : ∀ q : Rat, IsP q (.tup [.int q.num, .int q.den]) := fun q => .inl rfl
  have hh : Rat.divInt 1 2 / Rat.divInt (-3) 4 = Rat.divInt (-2) 3 := by decide +kernel
  have n1 : (Rat.divInt 1 2).num = 1 ∧ (Rat.divInt 1 2).den = 2 ∧ (Rat.divInt (-3) 4).num = -3 ∧ (Rat.divInt (-3) 4).den = 4 ∧ (Rat.divInt (-2) 3).num = -2 ∧ (Rat.divInt (-2) 3).den = 3 := by decide +kernel
  obtain ⟨q1, q2, q3, q4, q5, q6⟩ := n1
  have ov := over_ok (P (Rat.divInt 1 2)) (P (Rat.divInt (-3) 4)) ⟨by rw [q1]; decide, by rw [q2]; decide⟩ ⟨by rw [q3]; decide, by rw [q4]; decide⟩ (by rw [q3]; decide)
  rw [hh] at ov
  simp only [pr, q1, q2, q3, q4, q5, q6] at ov
  have mb : m_law = sSeq (sAsg 1 (eCallV f__law_vat (lCons (eVar 0) (lNil)))) (sSeq (sFor (iRng ranged1 (lCons (eLit (.int 6)) (lNil))) (gNam 2) lwB) (sRet (eOp fEq (eCallV f_over (lCons (eTup (lCons (eLit (.int 1)) (lCons (eLit (.int 2)) (lNil)))) (lCons (eTup (lCons (eUn fNeg (eLit (.int 3))) (lCons (eLit (.int 4)) (lNil)))) (lNil)))) (eTup (lCons (eUn fNeg (eLit (.int 2))) (lCons (eLit (.int 3)) (lNil))))))) := rfl
  refine ⟨[.non], ?_⟩
  rw [f_law, run_ap, mb]
  have ov' : f_over [.val (.tup [.int 1, .int 2]), .val (.tup [.int (-3), .int 4])] = .ok (.val (.tup [.int (-2), .int 3]), [.non, .non]) := ov
  simp only [ev, rg6, e, ov', eq_pair, beq_self_eq_true, Bool.and_self, bnd_ap, of_ap, seq_ap, asg_ap, ret_ap, retN_ap, sif_ap, expr_ap, par_ap, par3_ap, asgT_ap, nil_ap, brk_ap, cnt_ap, give_val, give_own, give_ali, take_val, take_own, take_ali, ta_nil, ta_cons, pk_val, pk_own, pk_ali, pa_nil', pa_cons', var_ap, lit_ap, op_ap, un_ap, cb_ap, lc_ap, ln_ap, tup_ap, lst_ap, cv_ap, ck_ap, cl_ap, and_ap, or_ap, not_ap, eif_ap, bval_ap, bnot_ap, band_ap, bor_ap, gnam_ap, gtup_ap, gend_ap, gcons_ap, rng_ap, for_ap, loop_nil, setIx_ap, run_ap, M.ret, unpk, asB, back, retS, fit_of, sInt, sBl, fIx, fLen, fAbs, fInt, fList, Mi.isNon, fIsN, fNotN, fCmp, fLt, fLe, fGt, fGe, fAdd, fSub, fNeg, O.frz, Mi.pick, List.getElem?_cons_zero, List.getElem?_cons_succ, List.getElem?_nil, List.set_cons_zero, List.set_cons_succ, List.map_cons, List.map_nil, List.length_cons, List.length_nil, List.replicate_succ, List.replicate_zero, List.cons_append, List.nil_append, Option.map_some, Option.map_none, if_true, if_false, Bool.false_eq_true, Bool.not_true, Bool.not_false, decide_true, decide_false, reduceIte, ne_eq, not_true_eq_false, not_false_eq_true, List.getD_cons_zero, List.getD_cons_succ, Nat.reduceAdd, Nat.reduceSub, Nat.reduceLeDiff, Nat.reduceEqDiff, atI_0, atI_1, atI_2]
end K04

namespace K04
open PySem PySem.Spec PyProof.Rows L2 Mi
/-! the head's run -/
def loose0 : List PySem.Str := ["SeenError", "BadRatio", "is_integer", "are_integers", "is_ratio", "need_ratio", "measure", "in_lowest", "added", "taken", "multiplied", "divided", "is_less", "need_two", "plus", "minus", "times", "over", "compared", "_law_vat", "_law_dip", "_law_pick", "_law_shared", "_law_ratio", "_law_is", "_law_sums_right", "_law_wide_right", "_law_order_right", "_law_heard", "_law_refused_right"]
def loose : List PySem.Str := loose0
abbrev Rr : PySem.W.OpenRow := PySem.W.OpenLaw.row PySem.Challenge.rw_farseen_k04_ratios_in_lowest_terms
abbrev hk : PySem.W.Hook := He.hookX 6 fa fn [] (tq.map (·.1)) fun K => (exs K).all id
def ob (s : PySem.W.SharedT) : He.AlX := He.obsX 6 fa fn [] (tq.map (·.1)) (fun K => (exs K).all id) (HandSHeadRun.getT s)
theorem ob_eq (s : PySem.W.SharedT) : ob s = hk.obs s.abs := He.obsX_eq (HandSHeadRun.getT_eq s)
theorem run (w : World) : HandSHeadRun.RunEq Rr (PySem.W.view Rr.prog [34]) hk ob 4000 loose w := by
  intro os
  kernel_rfl
end K04
open PySem PySem.W PySem.Calls PyProof.Rows
theorem PySem.Challenge.cw_farseen_k04_ratios_in_lowest_terms_holds : PySem.Challenge.rw_farseen_k04_ratios_in_lowest_terms.Holds := by
  w_on; o_law
  refine HandSHeadRun.head_any (r := OpenLaw.row PySem.Challenge.rw_farseen_k04_ratios_in_lowest_terms) (q := view (OpenLaw.row PySem.Challenge.rw_farseen_k04_ratios_in_lowest_terms).prog [34]) (H := K04.hk) (ob := K04.ob) (M := 4000) (loose := K04.loose) (d := HandSHeadRun.topDef (OpenLaw.row PySem.Challenge.rw_farseen_k04_ratios_in_lowest_terms).prog 34) (kwd := []) K04.ob_eq
    (by kernel_rfl) (fun s => by kernel_rfl) K04.run (by kernel_rfl) (by kernel_rfl) (by kernel_rfl) (by rfl) (by first | assumption | decide +kernel) (by decide +kernel) ⟨rfl, rfl, rfl, rfl, rfl, by decide +kernel⟩ ?hw ?hc
  case hw => w_witness2
  case hc =>
    exact Mi.law_walk (l := PySem.Challenge.rw_farseen_k04_ratios_in_lowest_terms) (n := 63) (k := 10) (x := "_law_script") (dl := K04.df28) (mf := K04.f_law) (nd := 6) 28 30 rfl (by decide) (by kernel_rfl) ⟨rfl, by decide, by decide⟩ rfl rfl rfl rfl rfl (fun _ _ _ _ _ _ us hl => match us, hl with | [_], _ => rfl) (fun w K mg base fd hd Fu => K04.o_law hd Fu) K04.law_true
